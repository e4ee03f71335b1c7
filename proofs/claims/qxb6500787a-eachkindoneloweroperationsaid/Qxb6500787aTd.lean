import Derived.Test.Qxb6500787aTc
import Derived.StillTailTactics
import Derived.Deep.QuietTactic
import Derived.BigQuiet
import Derived.Deep.RegionHeld
import Derived.Deep.CutRange
import Derived.Laws.ResultCell
import Derived.Laws.Rows
import Derived.DeepKeys
import Derived.DataBytes
import Derived.Laws.StructEq
import Derived.Laws.AppendOwn
import Derived.Laws.MakeOwn
import Derived.Lib.AppendStr
set_option linter.unusedSimpArgs false
set_option linter.unusedVariables false
namespace Go.Proofs.Qxb6500787a
open Go.RowKit Go.Blk
attribute [local go_sem ↓] execOp_load execOp_store execOp_alloc
attribute [local go_sem] Try.ld26 Try.st26 Try.ld27 Try.st27 Try.ld28 Try.st28 Try.ld3 Try.st3 Try.ld29 Try.st29 Try.ld44 Try.st44 Try.ld4 Try.st4 Try.ld50 Try.st50 Try.ld32 Try.st32 Try.ld49 Try.st49 Try.ld68 Try.st68 Try.ld9 Try.st9 Try.ld40 Try.st40 Try.ld138 Try.st138 Try.ld139 Try.st139 Try.ld146 Try.st146 Try.ld183 Try.st183 Try.ld184 Try.st184 Try.ld192 Try.st192 Try.ld195 Try.st195 Try.ld217 Try.st217 Try.ld159 Try.st159 Try.ld142 Try.st142 Try.ld2 Try.st2 Try.ld5 Try.st5 Try.ld12 Try.st12 Try.ld21 Try.st21 Try.ld22 Try.st22 Try.ld24 Try.st24 Try.ld58 Try.st58 Try.ld63 Try.st63 Try.ld97 Try.st97 Try.ld101 Try.st101 Try.ld116 Try.st116 Try.ld121 Try.st121 Try.ld135 Try.st135 Try.ld136 Try.st136 Try.ld143 Try.st143 Try.ld148 Try.st148 Try.ld154 Try.st154 Try.ld173 Try.st173 Try.ld187 Try.st187 Try.ld222 Try.st222 Try.ld241 Try.st241 Try.ld248 Try.st248 Try.ld268 Try.st268 Try.ld272 Try.st272 Try.ld153 Try.st153 Try.ld255 Try.st255 Try.ld256 Try.st256 Try.ld129 Try.st129 Try.ld152 Try.st152 Try.ld31 Try.st31 Try.ld46 Try.st46 Try.ld52 Try.st52 Try.ld54 Try.st54 Try.ld60 Try.st60 Try.ld70 Try.st70 Try.ld74 Try.st74 Try.ld93 Try.st93 Try.ld119 Try.st119 Try.ld141 Try.st141 Try.ld151 Try.st151 Try.ld170 Try.st170 Try.ld186 Try.st186 Try.ld189 Try.st189 Try.ld194 Try.st194 Try.ld197 Try.st197 Try.ld219 Try.st219 Try.ld224 Try.st224 Try.ld230 Try.st230 Try.ld235 Try.st235 Try.ld243 Try.st243 Try.ld247 Try.st247 Try.ld252 Try.st252 Try.ld258 Try.st258 Try.al153 Try.al255 Try.al256 Try.al129 Try.al152 Try.al31 Try.al46 Try.al52 Try.al54 Try.al60 Try.al70 Try.al74 Try.al93 Try.al119 Try.al141 Try.al151 Try.al170 Try.al186 Try.al189 Try.al194 Try.al197 Try.al219 Try.al224 Try.al230 Try.al235 Try.al243 Try.al247 Try.al252 Try.al258
attribute [local go_sem] Request.length_enc Request.ok_enc Request.all_get Request.all_set Request.kind_get Request.kind_set Request.blob_get Request.blob_set Request.items_get Request.items_set Request.pred_get Request.pred_set Request.slots_get Request.slots_set Trace.length_enc Trace.ok_enc Trace.all_get Trace.all_set Trace.op_get Trace.op_set Trace.calls_get Trace.calls_set Item.length_enc Item.ok_enc Item.all_get Item.all_set Item.del_get Item.del_set Item.pred_get Item.pred_set Item.args_get Item.args_set Reply.length_enc Reply.ok_enc Reply.all_get Reply.all_set Reply.code_get Reply.code_set Reply.kind_get Reply.kind_set Reply.index_get Reply.index_set Reply.yes_get Reply.yes_set Reply.preds_get Reply.preds_set Reply.rules_get Reply.rules_set Reply.arity_get Reply.arity_set Reply.rows_get Reply.rows_set Reply.fact_get Reply.fact_set Reply.fact_del_get Reply.fact_del_set Reply.fact_pred_get Reply.fact_pred_set Reply.fact_args_get Reply.fact_args_set GEntry.length_enc GEntry.ok_enc GEntry.all_get GEntry.all_set GEntry.seq_get GEntry.seq_set GEntry.kind_get GEntry.kind_set GEntry.code_get GEntry.code_set GOp.length_enc GOp.ok_enc GOp.all_get GOp.all_set GOp.kind_get GOp.kind_set GOp.raw_get GOp.raw_set Reader.length_enc Reader.ok_enc Reader.all_get Reader.all_set Reader.buf_get Reader.buf_set Reader.at__get Reader.at__set Slot.length_enc Slot.ok_enc Slot.all_get Slot.all_set Slot.bound_get Slot.bound_set Slot.name_get Slot.name_set Session.length_enc Session.ok_enc Session.all_get Session.all_set Session.svc_get Session.svc_set Session.buf_get Session.buf_set Session.closed_get Session.closed_set GProgram.length_enc GProgram.ok_enc GProgram.all_get GProgram.all_set GProgram.pool_get GProgram.pool_set GProgram.preds_get GProgram.preds_set GProgram.rules_get GProgram.rules_set GProgram.strata_get GProgram.strata_set PredInfo.length_enc PredInfo.ok_enc PredInfo.all_get PredInfo.all_set PredInfo.arity_get PredInfo.arity_set PredInfo.base_get PredInfo.base_set PredInfo.stratum_get PredInfo.stratum_set Change.length_enc Change.ok_enc Change.all_get Change.all_set Change.del_get Change.del_set Change.pred_get Change.pred_set Change.t_get Change.t_set Store.length_enc Store.ok_enc Store.all_get Store.all_set Store.names_get Store.names_set Store.arity_get Store.arity_set Store.rows_get Store.rows_set Src.length_enc Src.ok_enc Src.all_get Src.all_set Src.b_get Src.b_set Src.at__get Src.at__set Atom.length_enc Atom.ok_enc Atom.all_get Atom.all_set Atom.pred_get Atom.pred_set Atom.args_get Atom.args_set GRule.length_enc GRule.ok_enc GRule.all_get GRule.all_set GRule.head_get GRule.head_set GRule.body_get GRule.body_set GRule.head_pred_get GRule.head_pred_set GRule.head_args_get GRule.head_args_set Cert.length_enc Cert.ok_enc Cert.all_get Cert.all_set Cert.names_get Cert.names_set Cert.nodes_get Cert.nodes_set Fact.length_enc Fact.ok_enc Fact.all_get Fact.all_set Fact.pred_get Fact.pred_set Fact.t_get Fact.t_set Literal.length_enc Literal.ok_enc Literal.all_get Literal.all_set Literal.neg_get Literal.neg_set Literal.atom_get Literal.atom_set Literal.atom_pred_get Literal.atom_pred_set Literal.atom_args_get Literal.atom_args_set Engine.length_enc Engine.ok_enc Engine.all_get Engine.all_set Engine.prog_get Engine.prog_set Engine.st_get Engine.st_set SrcCertm.length_enc SrcCertm.ok_enc SrcCertm.all_get SrcCertm.all_set SrcCertm.b_get SrcCertm.b_set SrcCertm.at__get SrcCertm.at__set GNode.length_enc GNode.ok_enc GNode.all_get GNode.all_set GNode.rule_get GNode.rule_set GNode.pred_get GNode.pred_set GNode.vals_get GNode.vals_set GNode.refs_get GNode.refs_set Term.length_enc Term.ok_enc Term.all_get Term.all_set Term.var_get Term.var_set Term.n_get Term.n_set Env.length_enc Env.ok_enc Env.all_get Env.all_set Env.val_get Env.val_set Env.set_get Env.set_set
attribute [local go_sem] size_put size_ext blk_put free_put blk_alloc free_alloc blk_drew free_drew blk_ext free_ext lookOr_some putOr_some segAt_some cellAt_some storeIn_some put_put put_alloc_new length_arr ok_arr_u8 ok_arr_u32 ok_arr_u64 ok_arr_i64 ok_arr_sl cellsV_agg cellsV_int cellsV_bool cellsV_string cellsV_pointer cellsV_slice cellsV_sl ok_int ok_bool ok_string ok_pointer ok_slice ok_sl toList_arr seg_arr set_arr nth_splice nth_splice0 seg_splice seg_splice0 splice_splice splice_splice0 length_splice_if
attribute [local go_sem ↓] execOp_box
attribute [local go_sem] box_run nth_arr_u8 put_arr_u8 blk_drewN free_drewN put_drewN blk_raw free_raw
theorem build186 (w : World) : (buildOp 186 #[]).run Try.prog w = .ok (.value (.agg (stE none 0 0 none 0 0 none 0 0).toArray)) w := by kernel_rfl
attribute [local go_sem] st_len st0 st1 st2 sts0 sts1 sts2 build186 eql153 neq153
attribute [local go_sem ↓] execOp_build execOp_eql153 execOp_neq153
set_option maxRecDepth 20000 in
theorem newSt_any (O : Own) (W : World) (g : Nat) : Calls Try.prog 107 #[] W fun e V => ∃ bst O', e = .returned (.pointer (some ⟨bst, 0, none⟩)) ∧ W.Extends V ∧ (∀ k, k < W.heap.size → O' k = O k) ∧ O' = lab O W.heap.size (.a (2 * g + 2) 0) ∧ Sto W.heap.size O' V g bst [] [] [] := by
  obtain ⟨Q, hQ⟩ : ∃ Q, Q = (fun e V => ∃ bst O', e = .returned (.pointer (some ⟨bst, 0, none⟩)) ∧ W.Extends V ∧ (∀ k, k < W.heap.size → O' k = O k) ∧ O' = lab O W.heap.size (.a (2 * g + 2) 0) ∧ Sto W.heap.size O' V g bst [] [] [] : Ending → World → Prop) := ⟨_, rfl⟩
  rw [← hQ]
  have HP : Hid (Q (.returned (.pointer (some ⟨W.heap.size, 0, none⟩))) (W.alloc (.cells (stE none 0 0 none 0 0 none 0 0).toArray 186))) := by
    show Q _ _
    rw [hQ]
    refine ⟨_, _, rfl, extends_alloc (ext_Ext (Ext.refl _)) _, fun k hk => lab_lt hk, rfl, none, 0, 0, none, 0, 0, none, 0, 0, [], ?_, ?_, lab_ge (Nat.le_refl _), Nat.le_refl _, RowL.nil _ _ _ _ _ _, RowL.nil _ _ _ _ _ _, RowL.nil _ _ _ _ _ _, rfl, fun i d L hd => by cases hd⟩
    · rw [blk_alloc, if_pos rfl]
    · rw [free_alloc, if_pos rfl]
  clear hQ
  go_enter Try.func107, Try.ntmps107
  go_wp2_with fail
  try go_ret
  exact HP.out
/-- A relation's row, as the store's functions reach it. -/
theorem Sto.row {B : Nat} {O : Own} {W : World} {g bst : Nat} {N : List (List UInt8)} {A : List Int} {R : List (List Tup)} (h : Sto B O W g bst N A R) {r : Nat} {L : List Tup} (hL : R[r]? = some L) : ∃ na nn nc aa an ac br rc Cr da dc, blk W bst = some (stE na nn nc aa an ac (some ⟨br, 0, none⟩) R.length rc) ∧ blk W br = some Cr ∧ r < R.length ∧ r < Cr.length ∧ nth Cr r = some (.slice da L.length dc) ∧ Rw tpl 4 W da L.length L := by
  obtain ⟨na, nn, nc, aa, an, ac, ra, rn, rc, Ds, hs⟩ := h
  have hr := (List.getElem?_eq_some_iff.1 hL).1
  have hrw := (hs.rw.rw encD1_len).1
  have hdl := hs.dl
  have hrn := hrw.1
  obtain ⟨d, b, C, h1, h2, h3, h4, h5⟩ := hrw.at (i := r) (by omega)
  have hd := hs.dr r d L h1 hL
  rw [Nat.mul_one] at h4 h5
  have hn : nth C r = some (.slice d.a d.len d.cap) := nth_in (j := 0) h5 rfl (by omega)
  subst h2
  refine ⟨na, nn, nc, aa, an, ac, b, rc, C, d.a, d.cap, ?_, h3, hr, by omega, ?_, ?_⟩
  · rw [← hdl, hrn]; exact hs.cell
  · rw [hd.1]; exact hn
  · have := hd.uncore
    rw [hd.1]; exact this
def coI (W1 : World) (bst b5 r : Nat) (t : Tup) (L : List Tup) (f : Nat → Value) (V : World) : Prop := f 0 = .pointer (some ⟨bst, 0, none⟩) ∧ f 1 = .int .i64 (r : Int) ∧ f 5 = .pointer (some ⟨b5, 0, none⟩) ∧ Hid (W1.Extends V) ∧ ∃ i : Nat, i ≤ L.length ∧ f 7 = .int .i64 (i : Nat) ∧ Hid (∀ j, j < i → ∀ x, L[j]? = some x → x ≠ t)
set_option maxRecDepth 100000 in
theorem frame32t (f : Nat → Value) : frameN 32 f = #[f 0, f 1, f 2, f 3, f 4, f 5, f 6, f 7, f 8, f 9, f 10, f 11, f 12, f 13, f 14, f 15, f 16, f 17, f 18, f 19, f 20, f 21, f 22, f 23, f 24, f 25, f 26, f 27, f 28, f 29, f 30, f 31] := by kernel_rfl
set_option maxRecDepth 20000 in
set_option maxHeartbeats 1000000 in
theorem contains_any {B : Nat} {O : Own} {W : World} {g bst : Nat} {N : List (List UInt8)} {A : List Int} {R : List (List Tup)} (h : Sto B O W g bst N A R) {r : Nat} {L : List Tup} (hL : R[r]? = some L) (hl : L.length ≤ 10000000000) (hR : R.length ≤ 1000) (t : Tup) : Calls Try.prog 93 #[.pointer (some ⟨bst, 0, none⟩), .int .i64 (r : Int), .agg (arr i64v t).toArray] W fun e V => e = .returned (.bool (decide (t ∈ L))) ∧ W.Extends V := by
  obtain ⟨Q, hQ⟩ : ∃ Q, Q = (fun e V => e = .returned (.bool (decide (t ∈ L))) ∧ W.Extends V : Ending → World → Prop) := ⟨_, rfl⟩
  rw [← hQ]
  have HQ := hid_of hQ
  have HS := hid_of h
  have HL := hid_of hL
  clear hQ h hL
  go_enter Try.func93, Try.ntmps93
  go_upto_region 2 with fail
  refine wp_world (fun V => blk V W.heap.size = some (arr i64v t) ∧ W.Extends V) ⟨?_, extends_alloc (ext_Ext (Ext.refl _)) _⟩ ?_
  · rw [blk_alloc, if_pos rfl]
  rintro W1 ⟨hb5, hx1⟩
  obtain ⟨b5, e5⟩ : ∃ b5, b5 = W.heap.size := ⟨_, rfl⟩
  rw [← e5] at hb5 ⊢
  have HX1 := hid_of hx1
  have HB5 := hid_of hb5
  have HX0 : Hid (W1.Extends W1) := ext_Ext (Ext.refl _)
  clear e5 hx1 hb5
  refine wp_loop_f 32 (coI W1 bst b5 r t L) (fun f _ => L.length - (intOf (f 7)).toNat) rfl ⟨rfl, rfl, rfl, HX0, 0, by omega, rfl, fun j hj => absurd hj (Nat.not_lt_zero _)⟩ ?_
  clear HX0
  intro F V hrel
  obtain ⟨f0, f1, f5, HX, i, hi, f7, HI⟩ := hrel
  have H7 := hid_of f7
  rw [frame32t, f0, f1, f5, f7]
  clear f0 f1 f5 f7
  obtain ⟨na, nn, nc, aa, an, ac, br, rc, Cr, da, dc, s1, s2, s3, s4, s5, s6⟩ := (HS.out.ext (HX1.out.trans HX.out)).row HL.out
  have r0 : (0 : Int) ≤ (r : Int) := by omega
  have r1 : (r : Int) < (R.length : Int) := by omega
  have r2 : ((r : Int)).toNat = r := by omega
  have hb5 : blk V b5 = some (arr i64v t) := (HX.out.blk (blk_lt HB5.out)).trans HB5.out
  by_cases hin : i < L.length
  · have hin' : (i : Int) < (L.length : Int) := by omega
    obtain ⟨x, hx⟩ : ∃ x, L[i]? = some x := ⟨_, List.getElem?_eq_getElem hin⟩
    obtain ⟨bt, Ct, hda, g1, g2, _, g4⟩ := tup_at s6 hx
    subst hda
    have i0 : (0 : Int) ≤ (i : Int) := by omega
    have i2 : ((i : Int)).toNat = i := by omega
    have g5 : i * 4 < Ct.length := by omega
    have g6 : i * 4 + 4 ≤ Ct.length := by omega
    have HXX := hid_of hx
    have HXD : Hid (W1.Extends V.drew) := extends_drew HX.out
    clear s6 hx
    go_upto_region 4 with fail
    refine wp_region_held_drew (S := fun W' => blk W' bst = some (stE na nn nc aa an ac (some ⟨br, 0, none⟩) R.length rc) ∧ blk W' br = some Cr ∧ blk W' bt = some Ct ∧ blk W' b5 = some (arr i64v t)) (by kernel_rfl) ⟨s1, s2, g1, hb5⟩ (fun hHeld => ?_)
    refine wpAnyH_take (i := 0) (oi := ⟨_, _, _, _, _, _⟩) (v := ?_) rfl (by kernel_rfl) (by kernel_rfl) (by kernel_rfl) (fun _ _ _ h => h) (Or.inl ⟨by rfl, ?_⟩) (by assumption) ?_
    rotate_left 1
    · intro W' hSw
      obtain ⟨hS1, hS2, hS3, hS4⟩ := hSw
      go_simp
      try with_reducible rfl
    try simp only [Act.put, List.setIfInBounds_toArray, List.set_cons_zero, List.set_cons_succ]
    refine wpAnyH_take (i := 1) (oi := ⟨_, _, _, _, _, _⟩) (v := ?_) rfl (by kernel_rfl) (by kernel_rfl) (by kernel_rfl) (fun _ _ _ h => h) (Or.inl ⟨by rfl, ?_⟩) (by assumption) ?_
    rotate_left 1
    · intro W' hSw
      obtain ⟨hS1, hS2, hS3, hS4⟩ := hSw
      go_simp
      try with_reducible rfl
    try simp only [Act.put, List.setIfInBounds_toArray, List.set_cons_zero, List.set_cons_succ]
    refine wpAnyH_take (i := 2) (oi := ⟨_, _, _, _, _, _⟩) (v := ?_) rfl (by kernel_rfl) (by kernel_rfl) (by kernel_rfl) (fun _ _ _ h => h) (Or.inl ⟨by rfl, ?_⟩) (by assumption) ?_
    rotate_left 1
    · intro W' hSw
      obtain ⟨hS1, hS2, hS3, hS4⟩ := hSw
      go_simp
      try with_reducible rfl
    try simp only [Act.put, List.setIfInBounds_toArray, List.set_cons_zero, List.set_cons_succ]
    refine wpAnyH_take (i := 3) (oi := ⟨_, _, _, _, _, _⟩) (v := ?_) rfl (by kernel_rfl) (by kernel_rfl) (by kernel_rfl) (fun _ _ _ h => h) (Or.inl ⟨by rfl, ?_⟩) (by assumption) ?_
    rotate_left 1
    · intro W' hSw
      obtain ⟨hS1, hS2, hS3, hS4⟩ := hSw
      go_simp
      try with_reducible rfl
    try simp only [Act.put, List.setIfInBounds_toArray, List.set_cons_zero, List.set_cons_succ]
    refine wpAnyH_take (i := 4) (oi := ⟨_, _, _, _, _, _⟩) (v := ?_) rfl (by kernel_rfl) (by kernel_rfl) (by kernel_rfl) (fun _ _ _ h => h) (Or.inl ⟨by rfl, ?_⟩) (by assumption) ?_
    rotate_left 1
    · intro W' hSw
      obtain ⟨hS1, hS2, hS3, hS4⟩ := hSw
      go_simp
      try with_reducible rfl
    try simp only [Act.put, List.setIfInBounds_toArray, List.set_cons_zero, List.set_cons_succ]
    refine wpAnyH_take (i := 5) (oi := ⟨_, _, _, _, _, _⟩) (v := ?_) rfl (by kernel_rfl) (by kernel_rfl) (by kernel_rfl) (fun _ _ _ h => h) (Or.inl ⟨by rfl, ?_⟩) (by assumption) ?_
    rotate_left 1
    · intro W' hSw
      obtain ⟨hS1, hS2, hS3, hS4⟩ := hSw
      go_simp
      try with_reducible rfl
    try simp only [Act.put, List.setIfInBounds_toArray, List.set_cons_zero, List.set_cons_succ]
    refine wpAnyH_take (i := 6) (oi := ⟨_, _, _, _, _, _⟩) (v := ?_) rfl (by kernel_rfl) (by kernel_rfl) (by kernel_rfl) (fun _ _ _ h => h) (Or.inl ⟨by rfl, ?_⟩) (by assumption) ?_
    rotate_left 1
    · intro W' hSw
      obtain ⟨hS1, hS2, hS3, hS4⟩ := hSw
      go_simp
      try with_reducible rfl
    try simp only [Act.put, List.setIfInBounds_toArray, List.set_cons_zero, List.set_cons_succ]
    refine wpAnyH_take (i := 7) (oi := ⟨_, _, _, _, _, _⟩) (v := ?_) rfl (by kernel_rfl) (by kernel_rfl) (by kernel_rfl) (fun _ _ _ h => h) (Or.inl ⟨by rfl, ?_⟩) (by assumption) ?_
    rotate_left 1
    · intro W' hSw
      obtain ⟨hS1, hS2, hS3, hS4⟩ := hSw
      go_simp
      try with_reducible rfl
    try simp only [Act.put, List.setIfInBounds_toArray, List.set_cons_zero, List.set_cons_succ]
    refine wpAnyH_take (i := 8) (oi := ⟨_, _, _, _, _, _⟩) (v := ?_) rfl (by kernel_rfl) (by kernel_rfl) (by kernel_rfl) (fun _ _ _ h => h) (Or.inl ⟨by rfl, ?_⟩) (by assumption) ?_
    rotate_left 1
    · intro W' hSw
      obtain ⟨hS1, hS2, hS3, hS4⟩ := hSw
      go_simp
      try with_reducible rfl
    try simp only [Act.put, List.setIfInBounds_toArray, List.set_cons_zero, List.set_cons_succ]
    refine wpAnyH_take (i := 9) (oi := ⟨_, _, _, _, _, _⟩) (v := ?_) rfl (by kernel_rfl) (by kernel_rfl) (by kernel_rfl) (fun _ _ _ h => h) (Or.inl ⟨by rfl, ?_⟩) (by assumption) ?_
    rotate_left 1
    · intro W' hSw
      obtain ⟨hS1, hS2, hS3, hS4⟩ := hSw
      go_simp
      try with_reducible rfl
    try simp only [Act.put, List.setIfInBounds_toArray, List.set_cons_zero, List.set_cons_succ]
    refine wpAnyH_take (i := 10) (oi := ⟨_, _, _, _, _, _⟩) (v := ?_) rfl (by kernel_rfl) (by kernel_rfl) (by kernel_rfl) (fun _ _ _ h => h) (Or.inl ⟨by rfl, ?_⟩) (by assumption) ?_
    rotate_left 1
    · intro W' hSw
      obtain ⟨hS1, hS2, hS3, hS4⟩ := hSw
      go_simp
      try with_reducible rfl
    try simp only [Act.put, List.setIfInBounds_toArray, List.set_cons_zero, List.set_cons_succ]
    refine wpAnyH_take (i := 11) (oi := ⟨_, _, _, _, _, _⟩) (v := ?_) rfl (by kernel_rfl) (by kernel_rfl) (by kernel_rfl) (fun _ _ _ h => h) (Or.inl ⟨by rfl, ?_⟩) (by assumption) ?_
    rotate_left 1
    · intro W' hSw
      obtain ⟨hS1, hS2, hS3, hS4⟩ := hSw
      go_simp
      try with_reducible rfl
    try simp only [Act.put, List.setIfInBounds_toArray, List.set_cons_zero, List.set_cons_succ]
    refine wpAnyH_done (by kernel_rfl) ?_ _
    clear hHeld
    by_cases hxt : x = t
    · have hd : decide (x = t) = true := decide_eq_true hxt
      have HP : Hid (Q (.returned (.bool true)) V.drew) := by
        show Q _ _
        rw [HQ.out, decide_eq_true (List.mem_of_getElem? (by rw [← hxt]; exact HXX.out))]
        exact ⟨rfl, HX1.out.trans HXD.out⟩
      try rw [hd]
      clear HI hd HXD HX
      go_wp2_with fail
      try go_ret
      exact HP.out
    · have hd : decide (x = t) = false := decide_eq_false hxt
      have HI' : Hid (∀ j, j < i + 1 → ∀ x, L[j]? = some x → x ≠ t) := by
        intro j hj y hy
        by_cases hji : j = i
        · subst hji
          rw [HXX.out] at hy
          rw [← Option.some.inj hy]; exact hxt
        · exact HI.out j (by omega) y hy
      try rw [hd]
      clear HI hd hxt HX
      go_wp2_with fail
      refine ⟨rfl, rfl, ⟨rfl, rfl, rfl, HXD, i + 1, by omega, ?_, HI'⟩, ?_⟩
      · show Value.int .i64 _ = _
        go_num
      · show L.length - (intOf (Value.int .i64 _)).toNat < L.length - (intOf (F 7)).toNat
        rw [H7.out]
        simp [intOf]; omega
  · obtain rfl : i = L.length := by omega
    have hin' : ¬ ((L.length : Int) < (L.length : Int)) := by omega
    have HP : Hid (Q (.returned (.bool false)) V) := by
      show Q _ _
      rw [HQ.out, decide_eq_false (fun hm => by
        obtain ⟨j, hj, e⟩ := List.getElem_of_mem hm
        exact HI.out j hj t (by rw [List.getElem?_eq_getElem hj, e]) rfl)]
      exact ⟨rfl, HX1.out.trans HX.out⟩
    clear HI
    go_wp2_with fail
    try go_ret
    exact HP.out
end Go.Proofs.Qxb6500787a
