import Derived.Test.Qxb6500789aZe
import Derived.StillTailTactics
import Derived.Deep.QuietTactic
import Derived.BigQuiet
import Derived.Deep.RegionHeld
import Derived.Deep.CutRange
import Derived.Laws.ResultCell
import Derived.Laws.Rows
import Derived.DeepKeys
import Derived.DataBytes
import Derived.Laws.StructEq
import Derived.Laws.AppendOwn
import Derived.Laws.MakeOwn
import Derived.Lib.AppendStr
set_option linter.unusedSimpArgs false
set_option linter.unusedVariables false
namespace Go.Proofs.Qxb6500789a
open Go.RowKit Go.Blk
attribute [local go_sem ↓] execOp_load execOp_store execOp_alloc
attribute [local go_sem] Try.ld29 Try.st29 Try.ld3 Try.st3 Try.ld9 Try.st9 Try.ld30 Try.st30 Try.ld34 Try.st34 Try.ld35 Try.st35 Try.ld36 Try.st36 Try.ld37 Try.st37 Try.ld44 Try.st44 Try.ld45 Try.st45 Try.ld54 Try.st54 Try.ld55 Try.st55 Try.ld74 Try.st74 Try.ld80 Try.st80 Try.ld84 Try.st84 Try.ld106 Try.st106 Try.ld107 Try.st107 Try.ld4 Try.st4 Try.ld121 Try.st121 Try.ld2 Try.st2 Try.ld5 Try.st5 Try.ld12 Try.st12 Try.ld21 Try.st21 Try.ld22 Try.st22 Try.ld24 Try.st24 Try.ld26 Try.st26 Try.ld63 Try.st63 Try.ld71 Try.st71 Try.ld103 Try.st103 Try.ld130 Try.st130 Try.ld133 Try.st133 Try.ld140 Try.st140 Try.ld152 Try.st152 Try.ld39 Try.st39 Try.ld32 Try.st32 Try.ld41 Try.st41 Try.ld47 Try.st47 Try.ld57 Try.st57 Try.ld62 Try.st62 Try.ld76 Try.st76 Try.ld82 Try.st82 Try.ld86 Try.st86 Try.ld109 Try.st109 Try.ld115 Try.st115 Try.ld123 Try.st123 Try.ld135 Try.st135 Try.al39 Try.al32 Try.al41 Try.al47 Try.al57 Try.al62 Try.al76 Try.al82 Try.al86 Try.al109 Try.al115 Try.al123 Try.al135
attribute [local go_sem] Answer.length_enc Answer.ok_enc Answer.all_get Answer.all_set Answer.code_get Answer.code_set Answer.n_get Answer.n_set Answer.name_get Answer.name_set Answer.rows_get Answer.rows_set GOp.length_enc GOp.ok_enc GOp.all_get GOp.all_set GOp.kind_get GOp.kind_set GOp.rel_get GOp.rel_set GOp.mask_get GOp.mask_set GOp.t_get GOp.t_set GOp.n_get GOp.n_set GOp.name_get GOp.name_set Store.length_enc Store.ok_enc Store.all_get Store.all_set Store.names_get Store.names_set Store.rels_get Store.rels_set GRel.length_enc GRel.ok_enc GRel.all_get GRel.all_set GRel.arity_get GRel.arity_set GRel.masks_get GRel.masks_set GRel.rows_get GRel.rows_set Row.length_enc Row.ok_enc Row.all_get Row.all_set Row.t_get Row.t_set Row.mark_get Row.mark_set View.length_enc View.ok_enc View.all_get View.all_set View.names_get View.names_set View.rels_get View.rels_set Symtab.length_enc Symtab.ok_enc Symtab.all_get Symtab.all_set Symtab.names_get Symtab.names_set Symtab.table_get Symtab.table_set StoreTuplestore.length_enc StoreTuplestore.ok_enc StoreTuplestore.all_get StoreTuplestore.all_set StoreTuplestore.syms_get StoreTuplestore.syms_set StoreTuplestore.rels_get StoreTuplestore.rels_set StoreTuplestore.syms_names_get StoreTuplestore.syms_names_set StoreTuplestore.syms_table_get StoreTuplestore.syms_table_set Relation.length_enc Relation.ok_enc Relation.all_get Relation.all_set Relation.arity_get Relation.arity_set Relation.slots_get Relation.slots_set Relation.live_get Relation.live_set Relation.idx_get Relation.idx_set Slot.length_enc Slot.ok_enc Slot.all_get Slot.all_set Slot.t_get Slot.t_set Slot.mark_get Slot.mark_set Slot.live_get Slot.live_set RelView.length_enc RelView.ok_enc RelView.all_get RelView.all_set RelView.arity_get RelView.arity_set RelView.rows_get RelView.rows_set RelView.marks_get RelView.marks_set RelView.indexed_get RelView.indexed_set Index.length_enc Index.ok_enc Index.all_get Index.all_set Index.mask_get Index.mask_set Index.heads_get Index.heads_set Index.next_get Index.next_set
attribute [local go_sem] size_put size_ext blk_put free_put blk_alloc free_alloc blk_drew free_drew blk_ext free_ext lookOr_some putOr_some segAt_some cellAt_some storeIn_some put_put put_alloc_new length_arr ok_arr_u8 ok_arr_u32 ok_arr_u64 ok_arr_i64 ok_arr_sl cellsV_agg cellsV_int cellsV_bool cellsV_string cellsV_pointer cellsV_slice cellsV_sl ok_int ok_bool ok_string ok_pointer ok_slice ok_sl toList_arr seg_arr set_arr nth_splice nth_splice0 seg_splice seg_splice0 splice_splice splice_splice0 length_splice_if
attribute [local go_sem ↓] execOp_box
attribute [local go_sem] box_run nth_arr_u8 put_arr_u8 blk_drewN free_drewN put_drewN blk_raw free_raw
attribute [local go_sem] v_len v_ok v_n0 v_n1 v_s0 v_s1 v_all v_put b32_0 b32_c b32_n b32_cn b32_s b32_r b57
attribute [local go_sem ↓] execOp_build execOp_bslice
attribute [local go_sem] mr_len mr_ok mr_n0 mr_n1 mr_n2 mr_s1 mr_s2 mr_all mr_putz bslice45 bslice54
attribute [local go_sem] bslice30
def MPr (W : World) (c : Int) (ts : List Tup) (e : Ending) (W' : World) : Prop := ∃ a n k, e = .returned (.agg (Answer.enc ⟨c, 0, ByteArray.empty, ⟨a, n, k⟩⟩).toArray) ∧ W.Extends W' ∧ W'.ownsRow W.heap.size 39 4 (.slice a n k) ts.length (ts.flatMap tpl)
theorem probeCode_bad {sm : StS} {id m : Int} {t : Tup} (h : colCode sm id m ≠ 0) : probeCode sm id m t = colCode sm id m := by
  unfold probeCode colCode at *
  cases hr : relF sm id with
  | none => rfl
  | some s =>
    rw [hr] at h
    dsimp only at h ⊢
    unfold probeC
    rw [if_neg h]
theorem testBit_ar {k ar c : Nat} (hk : k < 2 ^ ar) (h : k.testBit c = true) : c < ar := by
  rcases Nat.lt_or_ge c ar with h1 | h1
  · exact h1
  · rw [Nat.testBit_lt_two_pow (Nat.lt_of_lt_of_le hk (Nat.pow_le_pow_right (n := 2) (by decide) h1))] at h; cases h
def pm1 (W0 : World) (bm n k b5 b4 nn : Nat) (t : Tup) (f : Nat → Value) (W : World) : Prop := f 0 = .pointer (some ⟨bm, 0, none⟩) ∧ f 1 = .int .i64 (n : Int) ∧ f 2 = .int .i64 (k : Int) ∧ f 7 = .pointer (some ⟨b5, 0, none⟩) ∧ f 8 = .pointer (some ⟨b4, 0, none⟩) ∧ W = W0 ∧ ∃ c : Nat, c ≤ 4 ∧ f 9 = .int .i64 (c : Nat) ∧ Hid (∀ c', c' < c → k.testBit c' = true → knowsF nn (tg t c') = true)
def pm2 (W0 : World) (bm n k b5 b4 wn : Nat) (L : List (Tup × Int)) (t : Tup) (f : Nat → Value) (W : World) : Prop := f 0 = .pointer (some ⟨bm, 0, none⟩) ∧ f 1 = .int .i64 (n : Int) ∧ f 2 = .int .i64 (k : Int) ∧ f 7 = .pointer (some ⟨b5, 0, none⟩) ∧ f 8 = .pointer (some ⟨b4, 0, none⟩) ∧ ∃ (i : Nat) (a : Option Addr) (m c : Nat), i ≤ wn ∧ f 11 = .int .i64 (i : Nat) ∧ f 10 = .slice a m c ∧ Hid (∃ ts, Outs W0 W a m c ts ∧ ts = ((L.take i).map (·.1)).filter (fun x => agreeF x t k))
def pm3 (V0 : World) (bm n k b5 b4 i : Nat) (a : Option Addr) (m cp : Nat) (x t : Tup) (f : Nat → Value) (W : World) : Prop := f 0 = .pointer (some ⟨bm, 0, none⟩) ∧ f 1 = .int .i64 (n : Int) ∧ f 2 = .int .i64 (k : Int) ∧ f 7 = .pointer (some ⟨b5, 0, none⟩) ∧ f 8 = .pointer (some ⟨b4, 0, none⟩) ∧ f 10 = .slice a m cp ∧ f 11 = .int .i64 (i : Nat) ∧ Hid (∃ k, W = V0.drewN k) ∧ ∃ (c : Nat) (b : Bool), c ≤ 4 ∧ f 13 = .int .i64 (c : Nat) ∧ f 12 = .bool b ∧ Hid (b = true ↔ ∀ c', c' < c → k.testBit c' = true → tg x c' = tg t c')
set_option maxRecDepth 100000 in
theorem frame98 (f : Nat → Value) : frameN 98 f = #[f 0, f 1, f 2, f 3, f 4, f 5, f 6, f 7, f 8, f 9, f 10, f 11, f 12, f 13, f 14, f 15, f 16, f 17, f 18, f 19, f 20, f 21, f 22, f 23, f 24, f 25, f 26, f 27, f 28, f 29, f 30, f 31, f 32, f 33, f 34, f 35, f 36, f 37, f 38, f 39, f 40, f 41, f 42, f 43, f 44, f 45, f 46, f 47, f 48, f 49, f 50, f 51, f 52, f 53, f 54, f 55, f 56, f 57, f 58, f 59, f 60, f 61, f 62, f 63, f 64, f 65, f 66, f 67, f 68, f 69, f 70, f 71, f 72, f 73, f 74, f 75, f 76, f 77, f 78, f 79, f 80, f 81, f 82, f 83, f 84, f 85, f 86, f 87, f 88, f 89, f 90, f 91, f 92, f 93, f 94, f 95, f 96, f 97] := by kernel_rfl
set_option maxRecDepth 20000 in
set_option maxHeartbeats 8000000 in
theorem mprobe_any (B : Nat) (O : Own) (W : World) (bm : Nat) (sm : StS) (h : MAt B O W bm sm) (hm : MSm sm) (id m : Int) (t : Tup) :
    Calls Try.prog 54 #[.pointer (some ⟨bm, 0, none⟩), .int .i64 id, .int .i64 m, .agg (arr i64v t).toArray] W (MPr W (probeCode sm id m t) (probeR sm id m t)) := by
  have HM := hid_of h
  have HSM := hid_of hm
  obtain ⟨c, hc⟩ : ∃ c, c = probeCode sm id m t := ⟨_, rfl⟩
  obtain ⟨R, hR⟩ : ∃ R, R = probeR sm id m t := ⟨_, rfl⟩
  rw [← hc, ← hR]
  have HC := hid_of hc
  have HR := hid_of hR
  obtain ⟨Q, hQ⟩ : ∃ Q, Q = MPr W c R := ⟨_, rfl⟩
  rw [← hQ]
  have HQ := hid_of hQ
  clear hc hQ hm h hR
  go_enter Try.func54, Try.ntmps54
  go_upto_region 1 with fail
  refine wp_world (fun W1 => blk W1 W.heap.size = some (arr i64v t) ∧ blk W1 (W.heap.size + 1) = some (Answer.enc Answer.zero) ∧ free W1 (W.heap.size + 1) = true ∧ W.Extends W1) ⟨?_, ?_, ?_, extends_alloc (extends_alloc (ext_Ext (Ext.refl _)) _) _⟩ ?_
  · rw [blk_alloc, if_neg (by rw [World.size_alloc]; omega), blk_alloc, if_pos rfl]
  · rw [blk_alloc, if_pos (by rw [World.size_alloc])]
  · unfold free; rw [heap_alloc, if_pos (by rw [World.size_alloc])]; rfl
  rintro W1 ⟨hb5, hb4, hf4, hx1⟩
  obtain ⟨b4, e4⟩ : ∃ b4, b4 = W.heap.size + 1 := ⟨_, rfl⟩
  obtain ⟨b5, e5⟩ : ∃ b5, b5 = W.heap.size := ⟨_, rfl⟩
  try simp only [World.size_alloc]
  rw [← e4] at hb4 hf4 ⊢
  rw [← e5] at hb5 ⊢
  have hn4 : W.heap.size ≤ b4 := by omega
  have hn5 : W.heap.size ≤ b5 := by omega
  have hn4' := blk_lt hb4
  have nb45 : ¬ b4 = b5 := by omega
  obtain ⟨O1, hO1⟩ : ∃ O1, O1 = lab O W.heap.size .no := ⟨_, rfl⟩
  have hM1 : MAt B O1 W1 bm sm := by rw [hO1]; exact HM.out.new hx1
  have HM1 := hid_of hM1
  have HF : Hid (∀ sm' V C, MOut B O1 W1 bm sm' V → MOut B O W bm sm' (put V b4 C)) := by
    intro sm' V C h
    rw [hO1] at h
    exact mout_put hx1 hn4 hn4' h C
  have HG : Hid (∀ sm' V, MOut B O1 W1 bm sm' V → blk V b4 = some (Answer.enc Answer.zero) ∧ free V b4 = true) := by
    intro sm' V h
    rw [hO1] at h
    exact mout_blk hn4 hb4 hf4 h
  have HG5 : Hid (∀ sm' V, MOut B O1 W1 bm sm' V → blk V b5 = some (arr i64v t)) := by
    intro sm' V h
    rw [hO1] at h
    obtain ⟨O', hF', _⟩ := h
    exact hF'.blk hb5 (by rw [lab_ge hn5]; rintro ⟨m, e⟩; cases e)
  have HXW := hid_of hx1
  have HFP : Hid (∀ c V a n k ts, Outs W1 V a n k ts → MPr W c ts (.returned (.agg (Answer.enc ⟨c, 0, ByteArray.empty, ⟨a, n, k⟩⟩).toArray)) (put V b4 (Answer.enc ⟨c, 0, ByteArray.empty, ⟨a, n, k⟩⟩)) ∧ blk V b4 = some (Answer.enc Answer.zero) ∧ free V b4 = true) := by
    intro c V a n k ts h
    refine ⟨⟨a, n, k, rfl, ext_putn (hx1.trans h.2.1) hn4 _, row_keep (row_base h.1 hx1.size) (fun x hx => ?_)⟩, (h.2.1.blk hn4').trans hb4, (free_of_heap (h.2.1.block b4 hn4')).trans hf4⟩
    have := (row_at h.1 x hx).1
    rw [heap_put, if_neg (by omega)]
  clear e4 e5 hO1 hx1 hn4 hn5 hM1 HF HG HG5
  have hcm := checkMask_any B O1 W1 bm sm HM1.out HSM.out id m
  obtain ⟨cc, hcc⟩ : ∃ cc, cc = colCode sm id m := ⟨_, rfl⟩
  rw [← hcc] at hcm
  by_cases hc0 : cc = 0
  rotate_left 1
  · have e : c = cc := by rw [HC.out, hcc]; exact probeCode_bad (by rw [← hcc]; exact hc0)
    have eR : R = [] := by rw [HR.out]; unfold probeR; rw [if_neg (by rw [← HC.out, e]; exact hc0)]
    subst e
    subst eR
    have hcb : (c == 0) = false := by simp [hc0]
    have hcn : (c != 0) = true := by simp [hc0]
    have hFP := HFP.out c _ _ _ _ _ (Outs.nil _ _ (ext_Ext (Ext.refl _)))
    have HP : Hid (Q (.returned (.agg (Answer.enc (ans c 0)).toArray)) (put (W1) b4 (Answer.enc (ans c 0)))) := by
      show Q _ _
      rw [HQ.out]
      exact hFP.1
    have hbV : blk (W1) b4 = some (Answer.enc Answer.zero) := hFP.2.1
    have hfV : free (W1) b4 = true := hFP.2.2
    have HBC : Hid (blk (put (W1) b4 (Answer.enc (ans c 0))) b4 = some (Answer.enc (ans c 0))) := by
      show blk _ _ = _
      rw [blk_put, if_pos rfl, hbV]; rfl
    clear hFP
    clear HFP hcc
    go_wp2_with fail
    refine hcm.mono ?_
    rintro e V1 ⟨rfl, rfl⟩
    dsimp only
    go_wp2_with fail
    refine hcm.mono ?_
    rintro e V2 ⟨rfl, rfl⟩
    dsimp only
    go_wp2_with fail
    try go_ret2
    refine ret_cell (C := Answer.enc (ans c 0)) rfl rfl HBC.out (by kernel_rfl) (by rw [Answer.length_enc]; kernel_rfl) rfl ?_
    exact HP.out
  subst hc0
  obtain ⟨n, s, k, rfl, hs, rfl, hk⟩ := col0 hcc.symm
  have hsm := HSM.out.rel s (List.mem_of_getElem? hs)
  have har4 := hsm.1
  have h512 := hsm.2.1
  have hk16 := pow16 har4 hk
  have hpc : probeCode sm (n : Int) (k : Int) t = if KeyOk sm.names.length s.ar k t then 0 else 10 := by
    unfold probeCode
    rw [relF_some hs]
    show probeC _ _ _ _ = _
    unfold probeC
    have e : colC s.ar (k : Int) = 0 := by have := hcc; unfold colCode at this; rw [relF_some hs] at this; exact this.symm
    rw [if_pos e, Int.toNat_natCast]
  have hrs : rowsS sm (n : Int) = rowsOf s.L := by unfold rowsS; rw [relF_some hs]
  have HPC := hid_of hpc
  have HRS := hid_of hrs
  have HKA := hid_of hk
  have HS := hid_of hs
  obtain ⟨na, nn, nc, gr, rn, rc, Cr, ka, kn, kc, wa, wn, wc, ho, _, _⟩ := mat_open HM1.out hs
  obtain ⟨hbm, hnn, hrn, hn, hC, hl, c0, c1, c2, _, hw⟩ := ho
  obtain ⟨L, hL⟩ : ∃ L, L = rowsOf s.L := ⟨_, rfl⟩
  rw [← hL] at hw h512
  have HL := hid_of hL
  have hwl := hw.1
  have hwn : wn ≤ 512 := by omega
  have HW := hid_of hw
  have HWL := hid_of hwl
  have d1 : n * 3 + 2 + 1 ≤ Cr.length := by omega
  have d2 : n * 3 < Cr.length := by omega
  have q0 : (0 : Int) ≤ (n : Int) := by omega
  have q1 : (n : Int) < (rn : Int) := by omega
  have q2 : ((n : Int)).toNat = n := by omega
  clear hpc hrs hk hcc hs hnn hrn hn c0 c1 hl hw hwl hL hsm
  go_wp2_with fail
  refine hcm.mono ?_
  rintro e V1 ⟨rfl, rfl⟩
  clear hcm
  dsimp only
  go_wp2_with fail
  refine wp_loop_f 98 (pm1 V1 bm n k b5 b4 sm.names.length t) (fun f _ => 4 - (intOf (f 9)).toNat) rfl ⟨rfl, rfl, rfl, rfl, rfl, rfl, 0, by omega, rfl, fun c' h => absurd h (Nat.not_lt_zero _)⟩ ?_
  intro F V hrel
  obtain ⟨f0, f1, f2, f7, f8, rfl, cl, hcl, f9, HQ1⟩ := hrel
  have H9 := hid_of f9
  rw [frame98, f0, f1, f2, f7, f8, f9]
  clear f0 f1 f2 f7 f8 f9
  by_cases hc4 : cl < 4
  · have hc4' : (cl : Int) < 4 := by omega
    have hcn : nth (arr i64v t) cl = some (.int .i64 (tg t cl)) := nth_t t cl hc4
    obtain ⟨tc2, htc2⟩ : ∃ tc2, tc2 = tg t cl := ⟨_, rfl⟩
    rw [← htc2] at hcn
    have p0 : (0 : Int) ≤ (cl : Int) := by omega
    have p2 : ((cl : Int)).toNat = cl := by omega
    have p3 : cl + 1 ≤ 4 := by omega
    have hin := in_any V k cl hk16 hc4
    have hsy := symOK_any B O1 V bm sm HM1.out tc2
    by_cases hbit : k.testBit cl = true
    · rw [hbit] at hin
      by_cases hkn : knowsF sm.names.length tc2 = true
      · have HQ' : Hid (∀ c', c' < cl + 1 → k.testBit c' = true → knowsF sm.names.length (tg t c') = true) := by
          intro c' h1 h2
          by_cases h3 : c' = cl
          · subst h3; rw [← htc2]; exact hkn
          · exact HQ1.out c' (by omega) h2
        rw [hkn] at hsy
        clear HQ1 htc2 hkn
        go_wp2_with fail
        refine hin.mono ?_
        rintro e V2 ⟨rfl, rfl⟩
        dsimp only
        go_wp2_with fail
        refine hsy.mono ?_
        rintro e V2 ⟨rfl, rfl⟩
        dsimp only
        go_wp2_with fail
        refine ⟨rfl, rfl, ⟨rfl, rfl, rfl, rfl, rfl, rfl, cl + 1, by omega, ?_, HQ'⟩, ?_⟩
        · show Value.int .i64 _ = _
          go_num
        · show 4 - (intOf (Value.int .i64 _)).toNat < 4 - (intOf (F 9)).toNat
          rw [H9.out]
          simp [intOf]; omega
      · have e : c = 10 := by
          rw [HC.out, HPC.out]
          exact if_neg (fun h => hkn (by rw [htc2]; exact h cl (testBit_ar HKA.out hbit) hbit))
        have eR : R = [] := by rw [HR.out]; unfold probeR; rw [if_neg (by rw [← HC.out, e]; decide)]
        rw [Bool.eq_false_iff.2 hkn] at hsy
        clear HQ1 htc2 hkn
        subst e
        subst eR
        have hFP := HFP.out 10 _ _ _ _ _ (Outs.nil _ _ (ext_Ext (Ext.refl _)))
        have HP : Hid (Q (.returned (.agg (Answer.enc (ans 10 0)).toArray)) (put (V) b4 (Answer.enc (ans 10 0)))) := by
          show Q _ _
          rw [HQ.out]
          exact hFP.1
        have hbV : blk (V) b4 = some (Answer.enc Answer.zero) := hFP.2.1
        have hfV : free (V) b4 = true := hFP.2.2
        have HBC : Hid (blk (put (V) b4 (Answer.enc (ans 10 0))) b4 = some (Answer.enc (ans 10 0))) := by
          show blk _ _ = _
          rw [blk_put, if_pos rfl, hbV]; rfl
        clear hFP
        clear HFP HC HR
        go_wp2_with fail
        refine hin.mono ?_
        rintro e V2 ⟨rfl, rfl⟩
        dsimp only
        go_wp2_with fail
        refine hsy.mono ?_
        rintro e V2 ⟨rfl, rfl⟩
        dsimp only
        go_wp2_with fail
        try go_ret2
        refine ret_cell (C := Answer.enc (ans 10 0)) rfl rfl HBC.out (by kernel_rfl) (by rw [Answer.length_enc]; kernel_rfl) rfl ?_
        exact HP.out
    · rw [Bool.eq_false_iff.2 hbit] at hin
      have HQ' : Hid (∀ c', c' < cl + 1 → k.testBit c' = true → knowsF sm.names.length (tg t c') = true) := by
        intro c' h1 h2
        by_cases h3 : c' = cl
        · subst h3; exact absurd h2 hbit
        · exact HQ1.out c' (by omega) h2
      clear HQ1 htc2 hsy
      go_wp2_with fail
      refine hin.mono ?_
      rintro e V2 ⟨rfl, rfl⟩
      dsimp only
      go_wp2_with fail
      refine ⟨rfl, rfl, ⟨rfl, rfl, rfl, rfl, rfl, rfl, cl + 1, by omega, ?_, HQ'⟩, ?_⟩
      · show Value.int .i64 _ = _
        go_num
      · show 4 - (intOf (Value.int .i64 _)).toNat < 4 - (intOf (F 9)).toNat
        rw [H9.out]
        simp [intOf]; omega
  have hc4' : ¬ (cl : Int) < 4 := by omega
  have e : c = 0 := by
    rw [HC.out, HPC.out]
    exact if_pos (fun c' h1 h2 => HQ1.out c' (by omega) h2)
  have eR : R = (L.map (·.1)).filter (fun x => agreeF x t k) := by
    rw [HR.out]; unfold probeR
    rw [if_pos (by rw [← HC.out]; exact e), HRS.out, Int.toNat_natCast, HL.out]
  subst e
  have HER := hid_of eR
  have HK2 : Hid (blk V bm = some (vE na nn nc (some ⟨gr, 0, none⟩) rn rc) ∧ blk V gr = some Cr ∧ blk V b5 = some (arr i64v t)) := ⟨hbm, hC, hb5⟩
  clear HQ1 eR hc4 hcl H9
  go_wp2_with fail
  have HQ0 : Hid (∃ ts, Outs V V none 0 0 ts ∧ ts = ((L.take 0).map (·.1)).filter (fun x => agreeF x t k)) := ⟨[], Outs.nil _ _ (ext_Ext (Ext.refl _)), rfl⟩
  refine wp_loop_f 98 (pm2 V bm n k b5 b4 wn L t) (fun f _ => wn - (intOf (f 11)).toNat) rfl ⟨rfl, rfl, rfl, rfl, rfl, 0, none, 0, 0, by omega, rfl, rfl, HQ0⟩ ?_
  clear HQ0 hbm hC hb5 hb4 hf4
  intro F1 V1 hrel
  obtain ⟨f0, f1, f2, f7, f8, i, a, m, cp, hi, f11, f10, HQ1⟩ := hrel
  have H11 := hid_of f11
  rw [frame98, f0, f1, f2, f7, f8, f10, f11]
  clear f0 f1 f2 f7 f8 f10 f11
  obtain ⟨ts, hout, hts⟩ := HQ1.out
  have hE := hout.2.1
  have hbm : blk V1 bm = some (vE na nn nc (some ⟨gr, 0, none⟩) rn rc) := (hE.blk (blk_lt HK2.out.1)).trans HK2.out.1
  have hC : blk V1 gr = some Cr := (hE.blk (blk_lt HK2.out.2.1)).trans HK2.out.2.1
  have hb5 : blk V1 b5 = some (arr i64v t) := (hE.blk (blk_lt HK2.out.2.2)).trans HK2.out.2.2
  by_cases hin : i < wn
  rotate_left 1
  · have hin' : ¬ (i : Int) < (wn : Int) := by omega
    have hR2 : R = ts := by rw [HER.out, hts, List.take_of_length_le (by rw [HWL.out]; omega)]
    subst hR2
    have hFP := HFP.out 0 _ _ _ _ _ hout
    have HP : Hid (Q (.returned (.agg (Answer.enc (⟨0, 0, ByteArray.empty, ⟨a, m, cp⟩⟩)).toArray)) (put (V1) b4 (Answer.enc (⟨0, 0, ByteArray.empty, ⟨a, m, cp⟩⟩)))) := by
      show Q _ _
      rw [HQ.out]
      exact hFP.1
    have hbV : blk (V1) b4 = some (Answer.enc Answer.zero) := hFP.2.1
    have hfV : free (V1) b4 = true := hFP.2.2
    have HBC : Hid (blk (put (V1) b4 (Answer.enc (⟨0, 0, ByteArray.empty, ⟨a, m, cp⟩⟩))) b4 = some (Answer.enc (⟨0, 0, ByteArray.empty, ⟨a, m, cp⟩⟩))) := by
      show blk _ _ = _
      rw [blk_put, if_pos rfl, hbV]; rfl
    clear hFP
    clear HFP hts hout hE HQ1
    go_wp2_with fail
    try go_ret2
    refine ret_cell (C := Answer.enc (⟨0, 0, ByteArray.empty, ⟨a, m, cp⟩⟩)) rfl rfl HBC.out (by kernel_rfl) (by rw [Answer.length_enc]; kernel_rfl) rfl ?_
    exact HP.out
  have hin' : (i : Int) < (wn : Int) := by omega
  obtain ⟨r, hr⟩ : ∃ r, L[i]? = some r := ⟨_, List.getElem?_eq_getElem (by rw [HWL.out]; exact hin)⟩
  obtain ⟨bn, Cn, rfl, hCn, hcn, _, un, _, _⟩ := wrow_at (HW.out.ext' hE) hr
  have p0 : (0 : Int) ≤ (i : Int) := by omega
  have p2 : ((i : Int)).toNat = i := by omega
  have p4 : i * 5 + 4 ≤ Cn.length := by omega
  have p5 : i * 5 < Cn.length := by omega
  obtain ⟨x, xm⟩ := r
  dsimp only at un
  have hnx : ((L.take (i + 1)).map (·.1)).filter (fun x => agreeF x t k) = ts ++ (if agreeF x t k = true then [x] else []) := by
    rw [List.take_add_one, hr, List.map_append, List.filter_append, ← hts]
    congr 1
    show List.filter _ [x] = _
    rw [List.filter_cons]
    rfl
  have htl : ts.length ≤ 1000 := by
    rw [hts]
    refine Nat.le_trans (List.length_filter_le _ _) ?_
    rw [List.length_map, List.length_take]; omega
  have HNX := hid_of hnx
  have HOUT := hid_of hout
  have HK3 : Hid (blk V1 bm = some (vE na nn nc (some ⟨gr, 0, none⟩) rn rc) ∧ blk V1 gr = some Cr ∧ blk V1 b5 = some (arr i64v t) ∧ blk V1 bn = some Cn) := ⟨hbm, hC, hb5, hCn⟩
  clear hnx hts hout hE HQ1 hr
  go_wp2_with fail
  have HK0 : Hid (∃ k, V1 = V1.drewN k) := ⟨0, rfl⟩
  have HB0 : Hid (true = true ↔ ∀ c', c' < 0 → k.testBit c' = true → tg x c' = tg t c') := ⟨fun _ c' h => absurd h (Nat.not_lt_zero _), fun _ => rfl⟩
  refine wp_loop_f 98 (pm3 V1 bm n k b5 b4 i a m cp x t) (fun f _ => 4 - (intOf (f 13)).toNat) rfl ⟨rfl, rfl, rfl, rfl, rfl, rfl, rfl, HK0, 0, true, by omega, rfl, rfl, HB0⟩ ?_
  clear HK0 HB0 hbm hC hb5 hCn
  intro F2 V2 hrel
  obtain ⟨f0, f1, f2, f7, f8, f10, f11, HK, cl, b, hcl, f13, f12, HB⟩ := hrel
  have H13 := hid_of f13
  rw [frame98, f0, f1, f2, f7, f8, f10, f11, f12, f13]
  clear f0 f1 f2 f7 f8 f10 f11 f12 f13
  obtain ⟨k0, hV⟩ := HK.out
  have hbm : blk V2 bm = some (vE na nn nc (some ⟨gr, 0, none⟩) rn rc) := by rw [hV, blk_drewN]; exact HK3.out.1
  have hC : blk V2 gr = some Cr := by rw [hV, blk_drewN]; exact HK3.out.2.1
  have hb5 : blk V2 b5 = some (arr i64v t) := by rw [hV, blk_drewN]; exact HK3.out.2.2.1
  have hCn : blk V2 bn = some Cn := by rw [hV, blk_drewN]; exact HK3.out.2.2.2
  by_cases hc4 : cl < 4
  · have hc4' : (cl : Int) < 4 := by omega
    have hct : nth (arr i64v t) cl = some (.int .i64 (tg t cl)) := nth_t t cl hc4
    have hcx : nth Cn (i * 5 + cl) = some (.int .i64 (tg x cl)) := nth_in (j := cl) un (nth_t x cl hc4) hc4
    obtain ⟨tt, htt⟩ : ∃ tt, tt = tg t cl := ⟨_, rfl⟩
    obtain ⟨tx, htx⟩ : ∃ tx, tx = tg x cl := ⟨_, rfl⟩
    rw [← htt] at hct
    rw [← htx] at hcx
    have r0 : (0 : Int) ≤ (cl : Int) := by omega
    have r2 : ((cl : Int)).toNat = cl := by omega
    have r3 : cl + 1 ≤ 4 := by omega
    have r4 : i * 5 + cl + 1 ≤ Cn.length := by omega
    have hinc := in_any V2.drew k cl hk16 hc4
    have HK' : Hid (∃ k, V2.drew = V1.drewN k) := ⟨k0 + 1, by rw [hV]; rfl⟩
    have hSd : blk V2.drew bm = some (vE na nn nc (some ⟨gr, 0, none⟩) rn rc) ∧ blk V2.drew gr = some Cr ∧ blk V2.drew b5 = some (arr i64v t) ∧ blk V2.drew bn = some Cn := ⟨hbm, hC, hb5, hCn⟩
    by_cases hbit : k.testBit cl = true
    · rw [hbit] at hinc
      by_cases he : tx = tt
      · have HB' : Hid (b = true ↔ ∀ c', c' < cl + 1 → k.testBit c' = true → tg x c' = tg t c') := by
          refine ⟨fun h c' h1 h2 => ?_, fun h => HB.out.2 (fun c' h1 h2 => h c' (by omega) h2)⟩
          by_cases h3 : c' = cl
          · subst h3; rw [← htx, ← htt]; exact he
          · exact HB.out.1 h c' (by omega) h2
        subst he
        clear hV HK HB htt htx
        go_upto_region 16 with fail
        refine wp_region_held_drew (S := fun W' => blk W' bm = some (vE na nn nc (some ⟨gr, 0, none⟩) rn rc) ∧ blk W' gr = some Cr ∧ blk W' b5 = some (arr i64v t) ∧ blk W' bn = some Cn) (by kernel_rfl) ⟨hbm, hC, hb5, hCn⟩ (fun hHeld => ?_)
        refine wpAnyH_take (i := 0) (oi := ⟨_, _, _, _, _, _⟩) (v := ?_) rfl (by kernel_rfl) (by kernel_rfl) (by kernel_rfl) (fun _ _ _ h => h) (Or.inl ⟨by rfl, ?_⟩) (by assumption) ?_
        rotate_left 1
        · intro W' hSw
          obtain ⟨hS1, hS2, hS3, hS4⟩ := hSw
          go_simp
          try with_reducible rfl
        try simp only [Act.put, List.setIfInBounds_toArray, List.set_cons_zero, List.set_cons_succ]
        refine wpAnyH_take (i := 1) (oi := ⟨_, _, _, _, _, _⟩) (v := ?_) rfl (by kernel_rfl) (by kernel_rfl) (by kernel_rfl) (fun _ _ _ h => h) (Or.inl ⟨by rfl, ?_⟩) (by assumption) ?_
        rotate_left 1
        · intro W' hSw
          obtain ⟨hS1, hS2, hS3, hS4⟩ := hSw
          go_simp
          try with_reducible rfl
        try simp only [Act.put, List.setIfInBounds_toArray, List.set_cons_zero, List.set_cons_succ]
        refine wpAnyH_ready (rs := [2]) (by kernel_rfl) (by simp) ?_
        refine AllReadyH.cons (o := ⟨_, _, _, _, _, _⟩) rfl (fun K' hK => ?_) AllReadyH.nil
        go_simp
        refine hinc.mono ?_
        rintro e V3 ⟨rfl, rfl⟩
        dsimp only
        refine hK.out _ _ hSd (fun hHeld => ?_)
        clear hK K'
        try simp only [Act.put, List.setIfInBounds_toArray, List.set_cons_zero, List.set_cons_succ]
        refine wpAnyH_take (i := 3) (oi := ⟨_, _, _, _, _, _⟩) (v := ?_) rfl (by kernel_rfl) (by kernel_rfl) (by kernel_rfl) (fun _ _ _ h => h) (Or.inl ⟨by rfl, ?_⟩) (by assumption) ?_
        rotate_left 1
        · intro W' hSw
          obtain ⟨hS1, hS2, hS3, hS4⟩ := hSw
          go_simp
          try with_reducible rfl
        try simp only [Act.put, List.setIfInBounds_toArray, List.set_cons_zero, List.set_cons_succ]
        refine wpAnyH_take (i := 4) (oi := ⟨_, _, _, _, _, _⟩) (v := ?_) rfl (by kernel_rfl) (by kernel_rfl) (by kernel_rfl) (fun _ _ _ h => h) (Or.inl ⟨by rfl, ?_⟩) (by assumption) ?_
        rotate_left 1
        · intro W' hSw
          obtain ⟨hS1, hS2, hS3, hS4⟩ := hSw
          go_simp
          try with_reducible rfl
        try simp only [Act.put, List.setIfInBounds_toArray, List.set_cons_zero, List.set_cons_succ]
        refine wpAnyH_take (i := 5) (oi := ⟨_, _, _, _, _, _⟩) (v := ?_) rfl (by kernel_rfl) (by kernel_rfl) (by kernel_rfl) (fun _ _ _ h => h) (Or.inl ⟨by rfl, ?_⟩) (by assumption) ?_
        rotate_left 1
        · intro W' hSw
          obtain ⟨hS1, hS2, hS3, hS4⟩ := hSw
          go_simp
          try with_reducible rfl
        try simp only [Act.put, List.setIfInBounds_toArray, List.set_cons_zero, List.set_cons_succ]
        refine wpAnyH_take (i := 6) (oi := ⟨_, _, _, _, _, _⟩) (v := ?_) rfl (by kernel_rfl) (by kernel_rfl) (by kernel_rfl) (fun _ _ _ h => h) (Or.inl ⟨by rfl, ?_⟩) (by assumption) ?_
        rotate_left 1
        · intro W' hSw
          obtain ⟨hS1, hS2, hS3, hS4⟩ := hSw
          go_simp
          try with_reducible rfl
        try simp only [Act.put, List.setIfInBounds_toArray, List.set_cons_zero, List.set_cons_succ]
        refine wpAnyH_take (i := 7) (oi := ⟨_, _, _, _, _, _⟩) (v := ?_) rfl (by kernel_rfl) (by kernel_rfl) (by kernel_rfl) (fun _ _ _ h => h) (Or.inl ⟨by rfl, ?_⟩) (by assumption) ?_
        rotate_left 1
        · intro W' hSw
          obtain ⟨hS1, hS2, hS3, hS4⟩ := hSw
          go_simp
          try with_reducible rfl
        try simp only [Act.put, List.setIfInBounds_toArray, List.set_cons_zero, List.set_cons_succ]
        refine wpAnyH_take (i := 8) (oi := ⟨_, _, _, _, _, _⟩) (v := ?_) rfl (by kernel_rfl) (by kernel_rfl) (by kernel_rfl) (fun _ _ _ h => h) (Or.inl ⟨by rfl, ?_⟩) (by assumption) ?_
        rotate_left 1
        · intro W' hSw
          obtain ⟨hS1, hS2, hS3, hS4⟩ := hSw
          go_simp
          try with_reducible rfl
        try simp only [Act.put, List.setIfInBounds_toArray, List.set_cons_zero, List.set_cons_succ]
        refine wpAnyH_take (i := 9) (oi := ⟨_, _, _, _, _, _⟩) (v := ?_) rfl (by kernel_rfl) (by kernel_rfl) (by kernel_rfl) (fun _ _ _ h => h) (Or.inl ⟨by rfl, ?_⟩) (by assumption) ?_
        rotate_left 1
        · intro W' hSw
          obtain ⟨hS1, hS2, hS3, hS4⟩ := hSw
          go_simp
          try with_reducible rfl
        try simp only [Act.put, List.setIfInBounds_toArray, List.set_cons_zero, List.set_cons_succ]
        refine wpAnyH_take (i := 10) (oi := ⟨_, _, _, _, _, _⟩) (v := ?_) rfl (by kernel_rfl) (by kernel_rfl) (by kernel_rfl) (fun _ _ _ h => h) (Or.inl ⟨by rfl, ?_⟩) (by assumption) ?_
        rotate_left 1
        · intro W' hSw
          obtain ⟨hS1, hS2, hS3, hS4⟩ := hSw
          go_simp
          try with_reducible rfl
        try simp only [Act.put, List.setIfInBounds_toArray, List.set_cons_zero, List.set_cons_succ]
        refine wpAnyH_take (i := 11) (oi := ⟨_, _, _, _, _, _⟩) (v := ?_) rfl (by kernel_rfl) (by kernel_rfl) (by kernel_rfl) (fun _ _ _ h => h) (Or.inl ⟨by rfl, ?_⟩) (by assumption) ?_
        rotate_left 1
        · intro W' hSw
          obtain ⟨hS1, hS2, hS3, hS4⟩ := hSw
          go_simp
          try with_reducible rfl
        try simp only [Act.put, List.setIfInBounds_toArray, List.set_cons_zero, List.set_cons_succ]
        refine wpAnyH_take (i := 12) (oi := ⟨_, _, _, _, _, _⟩) (v := ?_) rfl (by kernel_rfl) (by kernel_rfl) (by kernel_rfl) (fun _ _ _ h => h) (Or.inl ⟨by rfl, ?_⟩) (by assumption) ?_
        rotate_left 1
        · intro W' hSw
          obtain ⟨hS1, hS2, hS3, hS4⟩ := hSw
          go_simp
          try with_reducible rfl
        try simp only [Act.put, List.setIfInBounds_toArray, List.set_cons_zero, List.set_cons_succ]
        refine wpAnyH_take (i := 13) (oi := ⟨_, _, _, _, _, _⟩) (v := ?_) rfl (by kernel_rfl) (by kernel_rfl) (by kernel_rfl) (fun _ _ _ h => h) (Or.inl ⟨by rfl, ?_⟩) (by assumption) ?_
        rotate_left 1
        · intro W' hSw
          obtain ⟨hS1, hS2, hS3, hS4⟩ := hSw
          go_simp
          try with_reducible rfl
        try simp only [Act.put, List.setIfInBounds_toArray, List.set_cons_zero, List.set_cons_succ]
        refine wpAnyH_take (i := 14) (oi := ⟨_, _, _, _, _, _⟩) (v := ?_) rfl (by kernel_rfl) (by kernel_rfl) (by kernel_rfl) (fun _ _ _ h => h) (Or.inl ⟨by rfl, ?_⟩) (by assumption) ?_
        rotate_left 1
        · intro W' hSw
          obtain ⟨hS1, hS2, hS3, hS4⟩ := hSw
          go_simp
          try with_reducible rfl
        try simp only [Act.put, List.setIfInBounds_toArray, List.set_cons_zero, List.set_cons_succ]
        refine wpAnyH_take (i := 15) (oi := ⟨_, _, _, _, _, _⟩) (v := ?_) rfl (by kernel_rfl) (by kernel_rfl) (by kernel_rfl) (fun _ _ _ h => h) (Or.inl ⟨by rfl, ?_⟩) (by assumption) ?_
        rotate_left 1
        · intro W' hSw
          obtain ⟨hS1, hS2, hS3, hS4⟩ := hSw
          go_simp
          try with_reducible rfl
        try simp only [Act.put, List.setIfInBounds_toArray, List.set_cons_zero, List.set_cons_succ]
        refine wpAnyH_take (i := 16) (oi := ⟨_, _, _, _, _, _⟩) (v := ?_) rfl (by kernel_rfl) (by kernel_rfl) (by kernel_rfl) (fun _ _ _ h => h) (Or.inl ⟨by rfl, ?_⟩) (by assumption) ?_
        rotate_left 1
        · intro W' hSw
          obtain ⟨hS1, hS2, hS3, hS4⟩ := hSw
          go_simp
          try with_reducible rfl
        try simp only [Act.put, List.setIfInBounds_toArray, List.set_cons_zero, List.set_cons_succ]
        refine wpAnyH_take (i := 17) (oi := ⟨_, _, _, _, _, _⟩) (v := ?_) rfl (by kernel_rfl) (by kernel_rfl) (by kernel_rfl) (fun _ _ _ h => h) (Or.inl ⟨by rfl, ?_⟩) (by assumption) ?_
        rotate_left 1
        · intro W' hSw
          obtain ⟨hS1, hS2, hS3, hS4⟩ := hSw
          go_simp
          try with_reducible rfl
        try simp only [Act.put, List.setIfInBounds_toArray, List.set_cons_zero, List.set_cons_succ]
        refine wpAnyH_take (i := 18) (oi := ⟨_, _, _, _, _, _⟩) (v := ?_) rfl (by kernel_rfl) (by kernel_rfl) (by kernel_rfl) (fun _ _ _ h => h) (Or.inl ⟨by rfl, ?_⟩) (by assumption) ?_
        rotate_left 1
        · intro W' hSw
          obtain ⟨hS1, hS2, hS3, hS4⟩ := hSw
          go_simp
          try with_reducible rfl
        try simp only [Act.put, List.setIfInBounds_toArray, List.set_cons_zero, List.set_cons_succ]
        refine wpAnyH_take (i := 19) (oi := ⟨_, _, _, _, _, _⟩) (v := ?_) rfl (by kernel_rfl) (by kernel_rfl) (by kernel_rfl) (fun _ _ _ h => h) (Or.inl ⟨by rfl, ?_⟩) (by assumption) ?_
        rotate_left 1
        · intro W' hSw
          obtain ⟨hS1, hS2, hS3, hS4⟩ := hSw
          go_simp
          try with_reducible rfl
        try simp only [Act.put, List.setIfInBounds_toArray, List.set_cons_zero, List.set_cons_succ]
        refine wpAnyH_take (i := 20) (oi := ⟨_, _, _, _, _, _⟩) (v := ?_) rfl (by kernel_rfl) (by kernel_rfl) (by kernel_rfl) (fun _ _ _ h => h) (Or.inl ⟨by rfl, ?_⟩) (by assumption) ?_
        rotate_left 1
        · intro W' hSw
          obtain ⟨hS1, hS2, hS3, hS4⟩ := hSw
          go_simp
          try with_reducible rfl
        try simp only [Act.put, List.setIfInBounds_toArray, List.set_cons_zero, List.set_cons_succ]
        refine wpAnyH_take (i := 21) (oi := ⟨_, _, _, _, _, _⟩) (v := ?_) rfl (by kernel_rfl) (by kernel_rfl) (by kernel_rfl) (fun _ _ _ h => h) (Or.inl ⟨by rfl, ?_⟩) (by assumption) ?_
        rotate_left 1
        · intro W' hSw
          obtain ⟨hS1, hS2, hS3, hS4⟩ := hSw
          go_simp
          try with_reducible rfl
        try simp only [Act.put, List.setIfInBounds_toArray, List.set_cons_zero, List.set_cons_succ]
        refine wpAnyH_take (i := 22) (oi := ⟨_, _, _, _, _, _⟩) (v := ?_) rfl (by kernel_rfl) (by kernel_rfl) (by kernel_rfl) (fun _ _ _ h => h) (Or.inl ⟨by rfl, ?_⟩) (by assumption) ?_
        rotate_left 1
        · intro W' hSw
          obtain ⟨hS1, hS2, hS3, hS4⟩ := hSw
          go_simp
          try with_reducible rfl
        try simp only [Act.put, List.setIfInBounds_toArray, List.set_cons_zero, List.set_cons_succ]
        refine wpAnyH_done (by kernel_rfl) ?_ _
        go_wp2_with fail
        refine ⟨rfl, rfl, ⟨rfl, rfl, rfl, rfl, rfl, rfl, rfl, HK', cl + 1, _, by omega, ?_, rfl, HB'⟩, ?_⟩
        · show Value.int .i64 _ = _
          go_num
        · show 4 - (intOf (Value.int .i64 _)).toNat < 4 - (intOf (F2 13)).toNat
          rw [H13.out]
          simp [intOf]; omega
      · have HB' : Hid (false = true ↔ ∀ c', c' < cl + 1 → k.testBit c' = true → tg x c' = tg t c') := by
          refine ⟨fun h => (by cases h), fun h => absurd ?_ he⟩
          rw [htx, htt]; exact h cl (by omega) hbit
        have heb : (tx != tt) = true := by simp [he]
        have hec : (tx == tt) = false := by simp [he]
        clear hV HK HB htt htx
        go_upto_region 16 with fail
        refine wp_region_held_drew (S := fun W' => blk W' bm = some (vE na nn nc (some ⟨gr, 0, none⟩) rn rc) ∧ blk W' gr = some Cr ∧ blk W' b5 = some (arr i64v t) ∧ blk W' bn = some Cn) (by kernel_rfl) ⟨hbm, hC, hb5, hCn⟩ (fun hHeld => ?_)
        refine wpAnyH_take (i := 0) (oi := ⟨_, _, _, _, _, _⟩) (v := ?_) rfl (by kernel_rfl) (by kernel_rfl) (by kernel_rfl) (fun _ _ _ h => h) (Or.inl ⟨by rfl, ?_⟩) (by assumption) ?_
        rotate_left 1
        · intro W' hSw
          obtain ⟨hS1, hS2, hS3, hS4⟩ := hSw
          go_simp
          try with_reducible rfl
        try simp only [Act.put, List.setIfInBounds_toArray, List.set_cons_zero, List.set_cons_succ]
        refine wpAnyH_take (i := 1) (oi := ⟨_, _, _, _, _, _⟩) (v := ?_) rfl (by kernel_rfl) (by kernel_rfl) (by kernel_rfl) (fun _ _ _ h => h) (Or.inl ⟨by rfl, ?_⟩) (by assumption) ?_
        rotate_left 1
        · intro W' hSw
          obtain ⟨hS1, hS2, hS3, hS4⟩ := hSw
          go_simp
          try with_reducible rfl
        try simp only [Act.put, List.setIfInBounds_toArray, List.set_cons_zero, List.set_cons_succ]
        refine wpAnyH_ready (rs := [2]) (by kernel_rfl) (by simp) ?_
        refine AllReadyH.cons (o := ⟨_, _, _, _, _, _⟩) rfl (fun K' hK => ?_) AllReadyH.nil
        go_simp
        refine hinc.mono ?_
        rintro e V3 ⟨rfl, rfl⟩
        dsimp only
        refine hK.out _ _ hSd (fun hHeld => ?_)
        clear hK K'
        try simp only [Act.put, List.setIfInBounds_toArray, List.set_cons_zero, List.set_cons_succ]
        refine wpAnyH_take (i := 3) (oi := ⟨_, _, _, _, _, _⟩) (v := ?_) rfl (by kernel_rfl) (by kernel_rfl) (by kernel_rfl) (fun _ _ _ h => h) (Or.inl ⟨by rfl, ?_⟩) (by assumption) ?_
        rotate_left 1
        · intro W' hSw
          obtain ⟨hS1, hS2, hS3, hS4⟩ := hSw
          go_simp
          try with_reducible rfl
        try simp only [Act.put, List.setIfInBounds_toArray, List.set_cons_zero, List.set_cons_succ]
        refine wpAnyH_take (i := 4) (oi := ⟨_, _, _, _, _, _⟩) (v := ?_) rfl (by kernel_rfl) (by kernel_rfl) (by kernel_rfl) (fun _ _ _ h => h) (Or.inl ⟨by rfl, ?_⟩) (by assumption) ?_
        rotate_left 1
        · intro W' hSw
          obtain ⟨hS1, hS2, hS3, hS4⟩ := hSw
          go_simp
          try with_reducible rfl
        try simp only [Act.put, List.setIfInBounds_toArray, List.set_cons_zero, List.set_cons_succ]
        refine wpAnyH_take (i := 5) (oi := ⟨_, _, _, _, _, _⟩) (v := ?_) rfl (by kernel_rfl) (by kernel_rfl) (by kernel_rfl) (fun _ _ _ h => h) (Or.inl ⟨by rfl, ?_⟩) (by assumption) ?_
        rotate_left 1
        · intro W' hSw
          obtain ⟨hS1, hS2, hS3, hS4⟩ := hSw
          go_simp
          try with_reducible rfl
        try simp only [Act.put, List.setIfInBounds_toArray, List.set_cons_zero, List.set_cons_succ]
        refine wpAnyH_take (i := 6) (oi := ⟨_, _, _, _, _, _⟩) (v := ?_) rfl (by kernel_rfl) (by kernel_rfl) (by kernel_rfl) (fun _ _ _ h => h) (Or.inl ⟨by rfl, ?_⟩) (by assumption) ?_
        rotate_left 1
        · intro W' hSw
          obtain ⟨hS1, hS2, hS3, hS4⟩ := hSw
          go_simp
          try with_reducible rfl
        try simp only [Act.put, List.setIfInBounds_toArray, List.set_cons_zero, List.set_cons_succ]
        refine wpAnyH_take (i := 7) (oi := ⟨_, _, _, _, _, _⟩) (v := ?_) rfl (by kernel_rfl) (by kernel_rfl) (by kernel_rfl) (fun _ _ _ h => h) (Or.inl ⟨by rfl, ?_⟩) (by assumption) ?_
        rotate_left 1
        · intro W' hSw
          obtain ⟨hS1, hS2, hS3, hS4⟩ := hSw
          go_simp
          try with_reducible rfl
        try simp only [Act.put, List.setIfInBounds_toArray, List.set_cons_zero, List.set_cons_succ]
        refine wpAnyH_take (i := 8) (oi := ⟨_, _, _, _, _, _⟩) (v := ?_) rfl (by kernel_rfl) (by kernel_rfl) (by kernel_rfl) (fun _ _ _ h => h) (Or.inl ⟨by rfl, ?_⟩) (by assumption) ?_
        rotate_left 1
        · intro W' hSw
          obtain ⟨hS1, hS2, hS3, hS4⟩ := hSw
          go_simp
          try with_reducible rfl
        try simp only [Act.put, List.setIfInBounds_toArray, List.set_cons_zero, List.set_cons_succ]
        refine wpAnyH_take (i := 9) (oi := ⟨_, _, _, _, _, _⟩) (v := ?_) rfl (by kernel_rfl) (by kernel_rfl) (by kernel_rfl) (fun _ _ _ h => h) (Or.inl ⟨by rfl, ?_⟩) (by assumption) ?_
        rotate_left 1
        · intro W' hSw
          obtain ⟨hS1, hS2, hS3, hS4⟩ := hSw
          go_simp
          try with_reducible rfl
        try simp only [Act.put, List.setIfInBounds_toArray, List.set_cons_zero, List.set_cons_succ]
        refine wpAnyH_take (i := 10) (oi := ⟨_, _, _, _, _, _⟩) (v := ?_) rfl (by kernel_rfl) (by kernel_rfl) (by kernel_rfl) (fun _ _ _ h => h) (Or.inl ⟨by rfl, ?_⟩) (by assumption) ?_
        rotate_left 1
        · intro W' hSw
          obtain ⟨hS1, hS2, hS3, hS4⟩ := hSw
          go_simp
          try with_reducible rfl
        try simp only [Act.put, List.setIfInBounds_toArray, List.set_cons_zero, List.set_cons_succ]
        refine wpAnyH_take (i := 11) (oi := ⟨_, _, _, _, _, _⟩) (v := ?_) rfl (by kernel_rfl) (by kernel_rfl) (by kernel_rfl) (fun _ _ _ h => h) (Or.inl ⟨by rfl, ?_⟩) (by assumption) ?_
        rotate_left 1
        · intro W' hSw
          obtain ⟨hS1, hS2, hS3, hS4⟩ := hSw
          go_simp
          try with_reducible rfl
        try simp only [Act.put, List.setIfInBounds_toArray, List.set_cons_zero, List.set_cons_succ]
        refine wpAnyH_take (i := 12) (oi := ⟨_, _, _, _, _, _⟩) (v := ?_) rfl (by kernel_rfl) (by kernel_rfl) (by kernel_rfl) (fun _ _ _ h => h) (Or.inl ⟨by rfl, ?_⟩) (by assumption) ?_
        rotate_left 1
        · intro W' hSw
          obtain ⟨hS1, hS2, hS3, hS4⟩ := hSw
          go_simp
          try with_reducible rfl
        try simp only [Act.put, List.setIfInBounds_toArray, List.set_cons_zero, List.set_cons_succ]
        refine wpAnyH_take (i := 13) (oi := ⟨_, _, _, _, _, _⟩) (v := ?_) rfl (by kernel_rfl) (by kernel_rfl) (by kernel_rfl) (fun _ _ _ h => h) (Or.inl ⟨by rfl, ?_⟩) (by assumption) ?_
        rotate_left 1
        · intro W' hSw
          obtain ⟨hS1, hS2, hS3, hS4⟩ := hSw
          go_simp
          try with_reducible rfl
        try simp only [Act.put, List.setIfInBounds_toArray, List.set_cons_zero, List.set_cons_succ]
        refine wpAnyH_take (i := 14) (oi := ⟨_, _, _, _, _, _⟩) (v := ?_) rfl (by kernel_rfl) (by kernel_rfl) (by kernel_rfl) (fun _ _ _ h => h) (Or.inl ⟨by rfl, ?_⟩) (by assumption) ?_
        rotate_left 1
        · intro W' hSw
          obtain ⟨hS1, hS2, hS3, hS4⟩ := hSw
          go_simp
          try with_reducible rfl
        try simp only [Act.put, List.setIfInBounds_toArray, List.set_cons_zero, List.set_cons_succ]
        refine wpAnyH_take (i := 15) (oi := ⟨_, _, _, _, _, _⟩) (v := ?_) rfl (by kernel_rfl) (by kernel_rfl) (by kernel_rfl) (fun _ _ _ h => h) (Or.inl ⟨by rfl, ?_⟩) (by assumption) ?_
        rotate_left 1
        · intro W' hSw
          obtain ⟨hS1, hS2, hS3, hS4⟩ := hSw
          go_simp
          try with_reducible rfl
        try simp only [Act.put, List.setIfInBounds_toArray, List.set_cons_zero, List.set_cons_succ]
        refine wpAnyH_take (i := 16) (oi := ⟨_, _, _, _, _, _⟩) (v := ?_) rfl (by kernel_rfl) (by kernel_rfl) (by kernel_rfl) (fun _ _ _ h => h) (Or.inl ⟨by rfl, ?_⟩) (by assumption) ?_
        rotate_left 1
        · intro W' hSw
          obtain ⟨hS1, hS2, hS3, hS4⟩ := hSw
          go_simp
          try with_reducible rfl
        try simp only [Act.put, List.setIfInBounds_toArray, List.set_cons_zero, List.set_cons_succ]
        refine wpAnyH_take (i := 17) (oi := ⟨_, _, _, _, _, _⟩) (v := ?_) rfl (by kernel_rfl) (by kernel_rfl) (by kernel_rfl) (fun _ _ _ h => h) (Or.inl ⟨by rfl, ?_⟩) (by assumption) ?_
        rotate_left 1
        · intro W' hSw
          obtain ⟨hS1, hS2, hS3, hS4⟩ := hSw
          go_simp
          try with_reducible rfl
        try simp only [Act.put, List.setIfInBounds_toArray, List.set_cons_zero, List.set_cons_succ]
        refine wpAnyH_take (i := 18) (oi := ⟨_, _, _, _, _, _⟩) (v := ?_) rfl (by kernel_rfl) (by kernel_rfl) (by kernel_rfl) (fun _ _ _ h => h) (Or.inl ⟨by rfl, ?_⟩) (by assumption) ?_
        rotate_left 1
        · intro W' hSw
          obtain ⟨hS1, hS2, hS3, hS4⟩ := hSw
          go_simp
          try with_reducible rfl
        try simp only [Act.put, List.setIfInBounds_toArray, List.set_cons_zero, List.set_cons_succ]
        refine wpAnyH_take (i := 19) (oi := ⟨_, _, _, _, _, _⟩) (v := ?_) rfl (by kernel_rfl) (by kernel_rfl) (by kernel_rfl) (fun _ _ _ h => h) (Or.inl ⟨by rfl, ?_⟩) (by assumption) ?_
        rotate_left 1
        · intro W' hSw
          obtain ⟨hS1, hS2, hS3, hS4⟩ := hSw
          go_simp
          try with_reducible rfl
        try simp only [Act.put, List.setIfInBounds_toArray, List.set_cons_zero, List.set_cons_succ]
        refine wpAnyH_take (i := 20) (oi := ⟨_, _, _, _, _, _⟩) (v := ?_) rfl (by kernel_rfl) (by kernel_rfl) (by kernel_rfl) (fun _ _ _ h => h) (Or.inl ⟨by rfl, ?_⟩) (by assumption) ?_
        rotate_left 1
        · intro W' hSw
          obtain ⟨hS1, hS2, hS3, hS4⟩ := hSw
          go_simp
          try with_reducible rfl
        try simp only [Act.put, List.setIfInBounds_toArray, List.set_cons_zero, List.set_cons_succ]
        refine wpAnyH_take (i := 21) (oi := ⟨_, _, _, _, _, _⟩) (v := ?_) rfl (by kernel_rfl) (by kernel_rfl) (by kernel_rfl) (fun _ _ _ h => h) (Or.inl ⟨by rfl, ?_⟩) (by assumption) ?_
        rotate_left 1
        · intro W' hSw
          obtain ⟨hS1, hS2, hS3, hS4⟩ := hSw
          go_simp
          try with_reducible rfl
        try simp only [Act.put, List.setIfInBounds_toArray, List.set_cons_zero, List.set_cons_succ]
        refine wpAnyH_take (i := 22) (oi := ⟨_, _, _, _, _, _⟩) (v := ?_) rfl (by kernel_rfl) (by kernel_rfl) (by kernel_rfl) (fun _ _ _ h => h) (Or.inl ⟨by rfl, ?_⟩) (by assumption) ?_
        rotate_left 1
        · intro W' hSw
          obtain ⟨hS1, hS2, hS3, hS4⟩ := hSw
          go_simp
          try with_reducible rfl
        try simp only [Act.put, List.setIfInBounds_toArray, List.set_cons_zero, List.set_cons_succ]
        refine wpAnyH_done (by kernel_rfl) ?_ _
        go_wp2_with fail
        refine ⟨rfl, rfl, ⟨rfl, rfl, rfl, rfl, rfl, rfl, rfl, HK', cl + 1, _, by omega, ?_, rfl, HB'⟩, ?_⟩
        · show Value.int .i64 _ = _
          go_num
        · show 4 - (intOf (Value.int .i64 _)).toNat < 4 - (intOf (F2 13)).toNat
          rw [H13.out]
          simp [intOf]; omega
    · rw [Bool.eq_false_iff.2 hbit] at hinc
      have HB' : Hid (b = true ↔ ∀ c', c' < cl + 1 → k.testBit c' = true → tg x c' = tg t c') := by
        refine ⟨fun h c' h1 h2 => ?_, fun h => HB.out.2 (fun c' h1 h2 => h c' (by omega) h2)⟩
        by_cases h3 : c' = cl
        · subst h3; exact absurd h2 hbit
        · exact HB.out.1 h c' (by omega) h2
      clear hV HK HB htt htx
      go_upto_region 16 with fail
      refine wp_region_held_drew (S := fun W' => blk W' bm = some (vE na nn nc (some ⟨gr, 0, none⟩) rn rc) ∧ blk W' gr = some Cr ∧ blk W' b5 = some (arr i64v t) ∧ blk W' bn = some Cn) (by kernel_rfl) ⟨hbm, hC, hb5, hCn⟩ (fun hHeld => ?_)
      refine wpAnyH_take (i := 0) (oi := ⟨_, _, _, _, _, _⟩) (v := ?_) rfl (by kernel_rfl) (by kernel_rfl) (by kernel_rfl) (fun _ _ _ h => h) (Or.inl ⟨by rfl, ?_⟩) (by assumption) ?_
      rotate_left 1
      · intro W' hSw
        obtain ⟨hS1, hS2, hS3, hS4⟩ := hSw
        go_simp
        try with_reducible rfl
      try simp only [Act.put, List.setIfInBounds_toArray, List.set_cons_zero, List.set_cons_succ]
      refine wpAnyH_take (i := 1) (oi := ⟨_, _, _, _, _, _⟩) (v := ?_) rfl (by kernel_rfl) (by kernel_rfl) (by kernel_rfl) (fun _ _ _ h => h) (Or.inl ⟨by rfl, ?_⟩) (by assumption) ?_
      rotate_left 1
      · intro W' hSw
        obtain ⟨hS1, hS2, hS3, hS4⟩ := hSw
        go_simp
        try with_reducible rfl
      try simp only [Act.put, List.setIfInBounds_toArray, List.set_cons_zero, List.set_cons_succ]
      refine wpAnyH_ready (rs := [2]) (by kernel_rfl) (by simp) ?_
      refine AllReadyH.cons (o := ⟨_, _, _, _, _, _⟩) rfl (fun K' hK => ?_) AllReadyH.nil
      go_simp
      refine hinc.mono ?_
      rintro e V3 ⟨rfl, rfl⟩
      dsimp only
      refine hK.out _ _ hSd (fun hHeld => ?_)
      clear hK K'
      try simp only [Act.put, List.setIfInBounds_toArray, List.set_cons_zero, List.set_cons_succ]
      refine wpAnyH_take (i := 3) (oi := ⟨_, _, _, _, _, _⟩) (v := ?_) rfl (by kernel_rfl) (by kernel_rfl) (by kernel_rfl) (fun _ _ _ h => h) (Or.inl ⟨by rfl, ?_⟩) (by assumption) ?_
      rotate_left 1
      · intro W' hSw
        obtain ⟨hS1, hS2, hS3, hS4⟩ := hSw
        go_simp
        try with_reducible rfl
      try simp only [Act.put, List.setIfInBounds_toArray, List.set_cons_zero, List.set_cons_succ]
      refine wpAnyH_take (i := 4) (oi := ⟨_, _, _, _, _, _⟩) (v := undef) rfl (by kernel_rfl) (by kernel_rfl) (by kernel_rfl) (fun _ _ _ h => h) (Or.inr ⟨by rfl, rfl⟩) (by assumption) ?_
      try simp only [Act.put, List.setIfInBounds_toArray, List.set_cons_zero, List.set_cons_succ]
      refine wpAnyH_take (i := 5) (oi := ⟨_, _, _, _, _, _⟩) (v := undef) rfl (by kernel_rfl) (by kernel_rfl) (by kernel_rfl) (fun _ _ _ h => h) (Or.inr ⟨by rfl, rfl⟩) (by assumption) ?_
      try simp only [Act.put, List.setIfInBounds_toArray, List.set_cons_zero, List.set_cons_succ]
      refine wpAnyH_take (i := 6) (oi := ⟨_, _, _, _, _, _⟩) (v := undef) rfl (by kernel_rfl) (by kernel_rfl) (by kernel_rfl) (fun _ _ _ h => h) (Or.inr ⟨by rfl, rfl⟩) (by assumption) ?_
      try simp only [Act.put, List.setIfInBounds_toArray, List.set_cons_zero, List.set_cons_succ]
      refine wpAnyH_take (i := 7) (oi := ⟨_, _, _, _, _, _⟩) (v := undef) rfl (by kernel_rfl) (by kernel_rfl) (by kernel_rfl) (fun _ _ _ h => h) (Or.inr ⟨by rfl, rfl⟩) (by assumption) ?_
      try simp only [Act.put, List.setIfInBounds_toArray, List.set_cons_zero, List.set_cons_succ]
      refine wpAnyH_take (i := 8) (oi := ⟨_, _, _, _, _, _⟩) (v := undef) rfl (by kernel_rfl) (by kernel_rfl) (by kernel_rfl) (fun _ _ _ h => h) (Or.inr ⟨by rfl, rfl⟩) (by assumption) ?_
      try simp only [Act.put, List.setIfInBounds_toArray, List.set_cons_zero, List.set_cons_succ]
      refine wpAnyH_take (i := 9) (oi := ⟨_, _, _, _, _, _⟩) (v := undef) rfl (by kernel_rfl) (by kernel_rfl) (by kernel_rfl) (fun _ _ _ h => h) (Or.inr ⟨by rfl, rfl⟩) (by assumption) ?_
      try simp only [Act.put, List.setIfInBounds_toArray, List.set_cons_zero, List.set_cons_succ]
      refine wpAnyH_take (i := 10) (oi := ⟨_, _, _, _, _, _⟩) (v := undef) rfl (by kernel_rfl) (by kernel_rfl) (by kernel_rfl) (fun _ _ _ h => h) (Or.inr ⟨by rfl, rfl⟩) (by assumption) ?_
      try simp only [Act.put, List.setIfInBounds_toArray, List.set_cons_zero, List.set_cons_succ]
      refine wpAnyH_take (i := 11) (oi := ⟨_, _, _, _, _, _⟩) (v := undef) rfl (by kernel_rfl) (by kernel_rfl) (by kernel_rfl) (fun _ _ _ h => h) (Or.inr ⟨by rfl, rfl⟩) (by assumption) ?_
      try simp only [Act.put, List.setIfInBounds_toArray, List.set_cons_zero, List.set_cons_succ]
      refine wpAnyH_take (i := 12) (oi := ⟨_, _, _, _, _, _⟩) (v := undef) rfl (by kernel_rfl) (by kernel_rfl) (by kernel_rfl) (fun _ _ _ h => h) (Or.inr ⟨by rfl, rfl⟩) (by assumption) ?_
      try simp only [Act.put, List.setIfInBounds_toArray, List.set_cons_zero, List.set_cons_succ]
      refine wpAnyH_take (i := 13) (oi := ⟨_, _, _, _, _, _⟩) (v := undef) rfl (by kernel_rfl) (by kernel_rfl) (by kernel_rfl) (fun _ _ _ h => h) (Or.inr ⟨by rfl, rfl⟩) (by assumption) ?_
      try simp only [Act.put, List.setIfInBounds_toArray, List.set_cons_zero, List.set_cons_succ]
      refine wpAnyH_take (i := 14) (oi := ⟨_, _, _, _, _, _⟩) (v := undef) rfl (by kernel_rfl) (by kernel_rfl) (by kernel_rfl) (fun _ _ _ h => h) (Or.inr ⟨by rfl, rfl⟩) (by assumption) ?_
      try simp only [Act.put, List.setIfInBounds_toArray, List.set_cons_zero, List.set_cons_succ]
      refine wpAnyH_take (i := 15) (oi := ⟨_, _, _, _, _, _⟩) (v := undef) rfl (by kernel_rfl) (by kernel_rfl) (by kernel_rfl) (fun _ _ _ h => h) (Or.inr ⟨by rfl, rfl⟩) (by assumption) ?_
      try simp only [Act.put, List.setIfInBounds_toArray, List.set_cons_zero, List.set_cons_succ]
      refine wpAnyH_take (i := 16) (oi := ⟨_, _, _, _, _, _⟩) (v := undef) rfl (by kernel_rfl) (by kernel_rfl) (by kernel_rfl) (fun _ _ _ h => h) (Or.inr ⟨by rfl, rfl⟩) (by assumption) ?_
      try simp only [Act.put, List.setIfInBounds_toArray, List.set_cons_zero, List.set_cons_succ]
      refine wpAnyH_take (i := 17) (oi := ⟨_, _, _, _, _, _⟩) (v := undef) rfl (by kernel_rfl) (by kernel_rfl) (by kernel_rfl) (fun _ _ _ h => h) (Or.inr ⟨by rfl, rfl⟩) (by assumption) ?_
      try simp only [Act.put, List.setIfInBounds_toArray, List.set_cons_zero, List.set_cons_succ]
      refine wpAnyH_take (i := 18) (oi := ⟨_, _, _, _, _, _⟩) (v := undef) rfl (by kernel_rfl) (by kernel_rfl) (by kernel_rfl) (fun _ _ _ h => h) (Or.inr ⟨by rfl, rfl⟩) (by assumption) ?_
      try simp only [Act.put, List.setIfInBounds_toArray, List.set_cons_zero, List.set_cons_succ]
      refine wpAnyH_take (i := 19) (oi := ⟨_, _, _, _, _, _⟩) (v := undef) rfl (by kernel_rfl) (by kernel_rfl) (by kernel_rfl) (fun _ _ _ h => h) (Or.inr ⟨by rfl, rfl⟩) (by assumption) ?_
      try simp only [Act.put, List.setIfInBounds_toArray, List.set_cons_zero, List.set_cons_succ]
      refine wpAnyH_take (i := 20) (oi := ⟨_, _, _, _, _, _⟩) (v := undef) rfl (by kernel_rfl) (by kernel_rfl) (by kernel_rfl) (fun _ _ _ h => h) (Or.inr ⟨by rfl, rfl⟩) (by assumption) ?_
      try simp only [Act.put, List.setIfInBounds_toArray, List.set_cons_zero, List.set_cons_succ]
      refine wpAnyH_take (i := 21) (oi := ⟨_, _, _, _, _, _⟩) (v := undef) rfl (by kernel_rfl) (by kernel_rfl) (by kernel_rfl) (fun _ _ _ h => h) (Or.inr ⟨by rfl, rfl⟩) (by assumption) ?_
      try simp only [Act.put, List.setIfInBounds_toArray, List.set_cons_zero, List.set_cons_succ]
      refine wpAnyH_take (i := 22) (oi := ⟨_, _, _, _, _, _⟩) (v := ?_) rfl (by kernel_rfl) (by kernel_rfl) (by kernel_rfl) (fun _ _ _ h => h) (Or.inl ⟨by rfl, ?_⟩) (by assumption) ?_
      rotate_left 1
      · intro W' hSw
        obtain ⟨hS1, hS2, hS3, hS4⟩ := hSw
        go_simp
        try with_reducible rfl
      try simp only [Act.put, List.setIfInBounds_toArray, List.set_cons_zero, List.set_cons_succ]
      refine wpAnyH_done (by kernel_rfl) ?_ _
      go_wp2_with fail
      refine ⟨rfl, rfl, ⟨rfl, rfl, rfl, rfl, rfl, rfl, rfl, HK', cl + 1, _, by omega, ?_, rfl, HB'⟩, ?_⟩
      · show Value.int .i64 _ = _
        go_num
      · show 4 - (intOf (Value.int .i64 _)).toNat < 4 - (intOf (F2 13)).toNat
        rw [H13.out]
        simp [intOf]; omega
  have hc4' : ¬ (cl : Int) < 4 := by omega
  have hag : b = agreeF x t k := by
    unfold agreeF Agree
    have h1 := HB.out
    cases b with
    | true => exact (decide_eq_true (fun c' h2 h3 => h1.1 rfl c' (by omega) h3)).symm
    | false => exact (decide_eq_false (fun h => by have := h1.2 (fun c' h2 h3 => h c' (by omega) h3); cases this)).symm
  have hdx : V1.Extends V2 := by rw [hV]; exact extends_drewN (ext_Ext (Ext.refl _)) _
  have hout := HOUT.out.ext hdx
  cases b with
  | false =>
    have HQ' : Hid (∃ ts, Outs V V2 a m cp ts ∧ ts = ((L.take (i + 1)).map (·.1)).filter (fun x => agreeF x t k)) := ⟨ts, hout, by rw [HNX.out, ← hag]; simp⟩
    clear hag hV HK HB hdx hout hc4 hcl
    go_wp2_with fail
    refine ⟨rfl, rfl, ⟨rfl, rfl, rfl, rfl, rfl, i + 1, _, _, _, by omega, ?_, rfl, HQ'⟩, ?_⟩
    · show Value.int .i64 _ = _
      go_num
    · show wn - (intOf (Value.int .i64 _)).toNat < wn - (intOf (F1 11)).toNat
      rw [H11.out]
      simp [intOf]; omega
  | true =>
    obtain ⟨a', c', W3, hrun, hout3⟩ := hout.app x (by omega)
    have HQ' : Hid (∃ ts, Outs V W3 a' (m + 1) c' ts ∧ ts = ((L.take (i + 1)).map (·.1)).filter (fun x => agreeF x t k)) := ⟨_, hout3, by rw [HNX.out, ← hag]; simp⟩
    clear hag hV HK HB hdx hout hout3 hc4 hcl
    go_wp2_with (at_builtin; refine wpList_append_run rfl _ _ 30 rfl _ _ _ _ rfl rfl hrun ?_)
    refine ⟨rfl, rfl, ⟨rfl, rfl, rfl, rfl, rfl, i + 1, _, _, _, by omega, ?_, rfl, HQ'⟩, ?_⟩
    · show Value.int .i64 _ = _
      go_num
    · show wn - (intOf (Value.int .i64 _)).toNat < wn - (intOf (F1 11)).toNat
      rw [H11.out]
      simp [intOf]; omega
end Go.Proofs.Qxb6500789a
