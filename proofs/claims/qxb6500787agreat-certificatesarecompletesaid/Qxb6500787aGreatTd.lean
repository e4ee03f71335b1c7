
import Derived.Test.Qxb6500787aGreatTc
import Derived.StillTailTactics
import Derived.Deep.QuietTactic
import Derived.BigQuiet
import Derived.Deep.RegionHeld
import Derived.Deep.CutRange
import Derived.Laws.ResultCell
import Derived.Laws.Rows
import Derived.DeepKeys
import Derived.DataBytes
import Derived.Laws.StructEq
import Derived.Laws.AppendOwn
import Derived.Laws.MakeOwn
import Derived.Lib.AppendStr
set_option linter.unusedSimpArgs false
set_option linter.unusedVariables false
namespace Go.Proofs.Qxb6500787aGreat
open Go.RowKit Go.Blk
attribute [local go_sem ↓] execOp_load execOp_store execOp_alloc
attribute [local go_sem] Tryz.ld26 Tryz.st26 Tryz.ld27 Tryz.st27 Tryz.ld28 Tryz.st28 Tryz.ld3 Tryz.st3 Tryz.ld29 Tryz.st29 Tryz.ld44 Tryz.st44 Tryz.ld4 Tryz.st4 Tryz.ld50 Tryz.st50 Tryz.ld32 Tryz.st32 Tryz.ld49 Tryz.st49 Tryz.ld68 Tryz.st68 Tryz.ld9 Tryz.st9 Tryz.ld40 Tryz.st40 Tryz.ld138 Tryz.st138 Tryz.ld139 Tryz.st139 Tryz.ld146 Tryz.st146 Tryz.ld183 Tryz.st183 Tryz.ld184 Tryz.st184 Tryz.ld192 Tryz.st192 Tryz.ld195 Tryz.st195 Tryz.ld217 Tryz.st217 Tryz.ld159 Tryz.st159 Tryz.ld142 Tryz.st142 Tryz.ld2 Tryz.st2 Tryz.ld5 Tryz.st5 Tryz.ld12 Tryz.st12 Tryz.ld21 Tryz.st21 Tryz.ld22 Tryz.st22 Tryz.ld24 Tryz.st24 Tryz.ld58 Tryz.st58 Tryz.ld97 Tryz.st97 Tryz.ld101 Tryz.st101 Tryz.ld116 Tryz.st116 Tryz.ld121 Tryz.st121 Tryz.ld135 Tryz.st135 Tryz.ld136 Tryz.st136 Tryz.ld143 Tryz.st143 Tryz.ld148 Tryz.st148 Tryz.ld154 Tryz.st154 Tryz.ld173 Tryz.st173 Tryz.ld187 Tryz.st187 Tryz.ld222 Tryz.st222 Tryz.ld241 Tryz.st241 Tryz.ld248 Tryz.st248 Tryz.ld268 Tryz.st268 Tryz.ld272 Tryz.st272 Tryz.ld153 Tryz.st153 Tryz.ld255 Tryz.st255 Tryz.ld256 Tryz.st256 Tryz.ld129 Tryz.st129 Tryz.ld152 Tryz.st152 Tryz.ld31 Tryz.st31 Tryz.ld46 Tryz.st46 Tryz.ld52 Tryz.st52 Tryz.ld54 Tryz.st54 Tryz.ld60 Tryz.st60 Tryz.ld70 Tryz.st70 Tryz.ld74 Tryz.st74 Tryz.ld93 Tryz.st93 Tryz.ld141 Tryz.st141 Tryz.ld151 Tryz.st151 Tryz.ld170 Tryz.st170 Tryz.ld186 Tryz.st186 Tryz.ld189 Tryz.st189 Tryz.ld194 Tryz.st194 Tryz.ld197 Tryz.st197 Tryz.ld219 Tryz.st219 Tryz.ld224 Tryz.st224 Tryz.ld230 Tryz.st230 Tryz.ld235 Tryz.st235 Tryz.ld243 Tryz.st243 Tryz.ld247 Tryz.st247 Tryz.ld252 Tryz.st252 Tryz.ld258 Tryz.st258 Tryz.al153 Tryz.al255 Tryz.al256 Tryz.al129 Tryz.al152 Tryz.al31 Tryz.al46 Tryz.al52 Tryz.al54 Tryz.al60 Tryz.al70 Tryz.al74 Tryz.al93 Tryz.al141 Tryz.al151 Tryz.al170 Tryz.al186 Tryz.al189 Tryz.al194 Tryz.al197 Tryz.al219 Tryz.al224 Tryz.al230 Tryz.al235 Tryz.al243 Tryz.al247 Tryz.al252 Tryz.al258
attribute [local go_sem] Request.length_enc Request.ok_enc Request.all_get Request.all_set Request.kind_get Request.kind_set Request.blob_get Request.blob_set Request.items_get Request.items_set Request.pred_get Request.pred_set Request.slots_get Request.slots_set Trace.length_enc Trace.ok_enc Trace.all_get Trace.all_set Trace.op_get Trace.op_set Trace.calls_get Trace.calls_set Item.length_enc Item.ok_enc Item.all_get Item.all_set Item.del_get Item.del_set Item.pred_get Item.pred_set Item.args_get Item.args_set Reply.length_enc Reply.ok_enc Reply.all_get Reply.all_set Reply.code_get Reply.code_set Reply.kind_get Reply.kind_set Reply.index_get Reply.index_set Reply.yes_get Reply.yes_set Reply.preds_get Reply.preds_set Reply.rules_get Reply.rules_set Reply.arity_get Reply.arity_set Reply.rows_get Reply.rows_set Reply.fact_get Reply.fact_set Reply.fact_del_get Reply.fact_del_set Reply.fact_pred_get Reply.fact_pred_set Reply.fact_args_get Reply.fact_args_set GEntry.length_enc GEntry.ok_enc GEntry.all_get GEntry.all_set GEntry.seq_get GEntry.seq_set GEntry.kind_get GEntry.kind_set GEntry.code_get GEntry.code_set GOp.length_enc GOp.ok_enc GOp.all_get GOp.all_set GOp.kind_get GOp.kind_set GOp.raw_get GOp.raw_set Reader.length_enc Reader.ok_enc Reader.all_get Reader.all_set Reader.buf_get Reader.buf_set Reader.at__get Reader.at__set Slot.length_enc Slot.ok_enc Slot.all_get Slot.all_set Slot.bound_get Slot.bound_set Slot.name_get Slot.name_set Session.length_enc Session.ok_enc Session.all_get Session.all_set Session.svc_get Session.svc_set Session.buf_get Session.buf_set Session.closed_get Session.closed_set GProgram.length_enc GProgram.ok_enc GProgram.all_get GProgram.all_set GProgram.pool_get GProgram.pool_set GProgram.preds_get GProgram.preds_set GProgram.rules_get GProgram.rules_set GProgram.strata_get GProgram.strata_set PredInfo.length_enc PredInfo.ok_enc PredInfo.all_get PredInfo.all_set PredInfo.arity_get PredInfo.arity_set PredInfo.base_get PredInfo.base_set PredInfo.stratum_get PredInfo.stratum_set Change.length_enc Change.ok_enc Change.all_get Change.all_set Change.del_get Change.del_set Change.pred_get Change.pred_set Change.t_get Change.t_set Store.length_enc Store.ok_enc Store.all_get Store.all_set Store.names_get Store.names_set Store.arity_get Store.arity_set Store.rows_get Store.rows_set Src.length_enc Src.ok_enc Src.all_get Src.all_set Src.b_get Src.b_set Src.at__get Src.at__set Atom.length_enc Atom.ok_enc Atom.all_get Atom.all_set Atom.pred_get Atom.pred_set Atom.args_get Atom.args_set GRule.length_enc GRule.ok_enc GRule.all_get GRule.all_set GRule.head_get GRule.head_set GRule.body_get GRule.body_set GRule.head_pred_get GRule.head_pred_set GRule.head_args_get GRule.head_args_set Cert.length_enc Cert.ok_enc Cert.all_get Cert.all_set Cert.names_get Cert.names_set Cert.nodes_get Cert.nodes_set Fact.length_enc Fact.ok_enc Fact.all_get Fact.all_set Fact.pred_get Fact.pred_set Fact.t_get Fact.t_set Literal.length_enc Literal.ok_enc Literal.all_get Literal.all_set Literal.neg_get Literal.neg_set Literal.atom_get Literal.atom_set Literal.atom_pred_get Literal.atom_pred_set Literal.atom_args_get Literal.atom_args_set Engine.length_enc Engine.ok_enc Engine.all_get Engine.all_set Engine.prog_get Engine.prog_set Engine.st_get Engine.st_set SrcCertm.length_enc SrcCertm.ok_enc SrcCertm.all_get SrcCertm.all_set SrcCertm.b_get SrcCertm.b_set SrcCertm.at__get SrcCertm.at__set GNode.length_enc GNode.ok_enc GNode.all_get GNode.all_set GNode.rule_get GNode.rule_set GNode.pred_get GNode.pred_set GNode.vals_get GNode.vals_set GNode.refs_get GNode.refs_set Term.length_enc Term.ok_enc Term.all_get Term.all_set Term.var_get Term.var_set Term.n_get Term.n_set Env.length_enc Env.ok_enc Env.all_get Env.all_set Env.val_get Env.val_set Env.set_get Env.set_set
attribute [local go_sem] size_put size_ext blk_put free_put blk_alloc free_alloc blk_drew free_drew blk_ext free_ext lookOr_some putOr_some segAt_some cellAt_some storeIn_some put_put put_alloc_new length_arr ok_arr_u8 ok_arr_u32 ok_arr_u64 ok_arr_i64 ok_arr_sl cellsV_agg cellsV_int cellsV_bool cellsV_string cellsV_pointer cellsV_slice cellsV_sl ok_int ok_bool ok_string ok_pointer ok_slice ok_sl toList_arr seg_arr set_arr nth_splice nth_splice0 seg_splice seg_splice0 splice_splice splice_splice0 length_splice_if
attribute [local go_sem ↓] execOp_box
attribute [local go_sem] box_run nth_arr_u8 put_arr_u8 blk_drewN free_drewN put_drewN blk_raw free_raw
theorem build186 (w : World) : (buildOp 267 #[]).run Tryz.prog w = .ok (.value (.agg (stE none 0 0 none 0 0 none 0 0).toArray)) w := by kernel_rfl
attribute [local go_sem] st_len st0 st1 st2 sts0 sts1 sts2 build186 eql153 neq153
attribute [local go_sem ↓] execOp_build execOp_eql153 execOp_neq153
set_option maxRecDepth 20000 in
theorem newSt_any (O : Own) (W : World) (g : Nat) : Calls Tryz.prog 146 #[] W fun e V => ∃ bst O', e = .returned (.pointer (some ⟨bst, 0, none⟩)) ∧ W.Extends V ∧ (∀ k, k < W.heap.size → O' k = O k) ∧ O' = lab O W.heap.size (.a (2 * g + 2) 0) ∧ Sto W.heap.size O' V g bst [] [] [] := by
  obtain ⟨Q, hQ⟩ : ∃ Q, Q = (fun e V => ∃ bst O', e = .returned (.pointer (some ⟨bst, 0, none⟩)) ∧ W.Extends V ∧ (∀ k, k < W.heap.size → O' k = O k) ∧ O' = lab O W.heap.size (.a (2 * g + 2) 0) ∧ Sto W.heap.size O' V g bst [] [] [] : Ending → World → Prop) := ⟨_, rfl⟩
  rw [← hQ]
  have HP : Hid (Q (.returned (.pointer (some ⟨W.heap.size, 0, none⟩))) (W.alloc (.cells (stE none 0 0 none 0 0 none 0 0).toArray 267))) := by
    show Q _ _
    rw [hQ]
    refine ⟨_, _, rfl, extends_alloc (ext_Ext (Ext.refl _)) _, fun k hk => lab_lt hk, rfl, none, 0, 0, none, 0, 0, none, 0, 0, [], ?_, ?_, lab_ge (Nat.le_refl _), Nat.le_refl _, RowL.nil _ _ _ _ _ _, RowL.nil _ _ _ _ _ _, RowL.nil _ _ _ _ _ _, rfl, fun i d L hd => by cases hd⟩
    · rw [blk_alloc, if_pos rfl]
    · rw [free_alloc, if_pos rfl]
  clear hQ
  go_enter Tryz.func146, Tryz.ntmps146
  go_wp2_with fail
  try go_ret
  exact HP.out
/-- A relation's row, as the store's functions reach it. -/
theorem Sto.row {B : Nat} {O : Own} {W : World} {g bst : Nat} {N : List (List UInt8)} {A : List Int} {R : List (List Tup)} (h : Sto B O W g bst N A R) {r : Nat} {L : List Tup} (hL : R[r]? = some L) : ∃ na nn nc aa an ac br rc Cr da dc, blk W bst = some (stE na nn nc aa an ac (some ⟨br, 0, none⟩) R.length rc) ∧ blk W br = some Cr ∧ r < R.length ∧ r < Cr.length ∧ nth Cr r = some (.slice da L.length dc) ∧ Rw tpl 4 W da L.length L := by
  obtain ⟨na, nn, nc, aa, an, ac, ra, rn, rc, Ds, hs⟩ := h
  have hr := (List.getElem?_eq_some_iff.1 hL).1
  have hrw := (hs.rw.rw encD1_len).1
  have hdl := hs.dl
  have hrn := hrw.1
  obtain ⟨d, b, C, h1, h2, h3, h4, h5⟩ := hrw.at (i := r) (by omega)
  have hd := hs.dr r d L h1 hL
  rw [Nat.mul_one] at h4 h5
  have hn : nth C r = some (.slice d.a d.len d.cap) := nth_in (j := 0) h5 rfl (by omega)
  subst h2
  refine ⟨na, nn, nc, aa, an, ac, b, rc, C, d.a, d.cap, ?_, h3, hr, by omega, ?_, ?_⟩
  · rw [← hdl, hrn]; exact hs.cell
  · rw [hd.1]; exact hn
  · have := hd.uncore
    rw [hd.1]; exact this
def coI (W1 : World) (bst b5 r : Nat) (t : Tup) (L : List Tup) (f : Nat → Value) (V : World) : Prop := f 0 = .pointer (some ⟨bst, 0, none⟩) ∧ f 1 = .int .i64 (r : Int) ∧ f 5 = .pointer (some ⟨b5, 0, none⟩) ∧ Hid (W1.Extends V) ∧ ∃ i : Nat, i ≤ L.length ∧ f 7 = .int .i64 (i : Nat) ∧ Hid (∀ j, j < i → ∀ x, L[j]? = some x → x ≠ t)
set_option maxRecDepth 100000 in
theorem frame32t (f : Nat → Value) : frameN 32 f = #[f 0, f 1, f 2, f 3, f 4, f 5, f 6, f 7, f 8, f 9, f 10, f 11, f 12, f 13, f 14, f 15, f 16, f 17, f 18, f 19, f 20, f 21, f 22, f 23, f 24, f 25, f 26, f 27, f 28, f 29, f 30, f 31] := by kernel_rfl
set_option maxRecDepth 20000 in
set_option maxHeartbeats 1000000 in
theorem contains_any {B : Nat} {O : Own} {W : World} {g bst : Nat} {N : List (List UInt8)} {A : List Int} {R : List (List Tup)} (h : Sto B O W g bst N A R) {r : Nat} {L : List Tup} (hL : R[r]? = some L) (hl : L.length ≤ 10000000000) (hR : R.length ≤ 1000) (t : Tup) : Calls Tryz.prog 141 #[.pointer (some ⟨bst, 0, none⟩), .int .i64 (r : Int), .agg (arr i64v t).toArray] W fun e V => e = .returned (.bool (decide (t ∈ L))) ∧ W.Extends V := by
  obtain ⟨Q, hQ⟩ : ∃ Q, Q = (fun e V => e = .returned (.bool (decide (t ∈ L))) ∧ W.Extends V : Ending → World → Prop) := ⟨_, rfl⟩
  rw [← hQ]
  have HQ := hid_of hQ
  have HS := hid_of h
  have HL := hid_of hL
  clear hQ h hL
  go_enter Tryz.func141, Tryz.ntmps141
  go_upto_region 2 with fail
  refine wp_world (fun V => blk V W.heap.size = some (arr i64v t) ∧ W.Extends V) ⟨?_, extends_alloc (ext_Ext (Ext.refl _)) _⟩ ?_
  · rw [blk_alloc, if_pos rfl]
  rintro W1 ⟨hb5, hx1⟩
  obtain ⟨b5, e5⟩ : ∃ b5, b5 = W.heap.size := ⟨_, rfl⟩
  rw [← e5] at hb5 ⊢
  have HX1 := hid_of hx1
  have HB5 := hid_of hb5
  have HX0 : Hid (W1.Extends W1) := ext_Ext (Ext.refl _)
  clear e5 hx1 hb5
  refine wp_loop_f 32 (coI W1 bst b5 r t L) (fun f _ => L.length - (intOf (f 7)).toNat) rfl ⟨rfl, rfl, rfl, HX0, 0, by omega, rfl, fun j hj => absurd hj (Nat.not_lt_zero _)⟩ ?_
  clear HX0
  intro F V hrel
  obtain ⟨f0, f1, f5, HX, i, hi, f7, HI⟩ := hrel
  have H7 := hid_of f7
  rw [frame32t, f0, f1, f5, f7]
  clear f0 f1 f5 f7
  obtain ⟨na, nn, nc, aa, an, ac, br, rc, Cr, da, dc, s1, s2, s3, s4, s5, s6⟩ := (HS.out.ext (HX1.out.trans HX.out)).row HL.out
  have r0 : (0 : Int) ≤ (r : Int) := by omega
  have r1 : (r : Int) < (R.length : Int) := by omega
  have r2 : ((r : Int)).toNat = r := by omega
  have hb5 : blk V b5 = some (arr i64v t) := (HX.out.blk (blk_lt HB5.out)).trans HB5.out
  by_cases hin : i < L.length
  · have hin' : (i : Int) < (L.length : Int) := by omega
    obtain ⟨x, hx⟩ : ∃ x, L[i]? = some x := ⟨_, List.getElem?_eq_getElem hin⟩
    obtain ⟨bt, Ct, hda, g1, g2, _, g4⟩ := tup_at s6 hx
    subst hda
    have i0 : (0 : Int) ≤ (i : Int) := by omega
    have i2 : ((i : Int)).toNat = i := by omega
    have g5 : i * 4 < Ct.length := by omega
    have g6 : i * 4 + 4 ≤ Ct.length := by omega
    have HXX := hid_of hx
    have HXD : Hid (W1.Extends V.drew) := extends_drew HX.out
    clear s6 hx
    go_upto_region 4 with fail
    refine wp_region_held_drew (S := fun W' => blk W' bst = some (stE na nn nc aa an ac (some ⟨br, 0, none⟩) R.length rc) ∧ blk W' br = some Cr ∧ blk W' bt = some Ct ∧ blk W' b5 = some (arr i64v t)) (by kernel_rfl) ⟨s1, s2, g1, hb5⟩ (fun hHeld => ?_)
    refine wpAnyH_take (i := 0) (oi := ⟨_, _, _, _, _, _⟩) (v := ?_) rfl (by kernel_rfl) (by kernel_rfl) (by kernel_rfl) (fun _ _ _ h => h) (Or.inl ⟨by rfl, ?_⟩) (by assumption) ?_
    rotate_left 1
    · intro W' hSw
      obtain ⟨hS1, hS2, hS3, hS4⟩ := hSw
      go_simp
      try with_reducible rfl
    try simp only [Act.put, List.setIfInBounds_toArray, List.set_cons_zero, List.set_cons_succ]
    refine wpAnyH_take (i := 1) (oi := ⟨_, _, _, _, _, _⟩) (v := ?_) rfl (by kernel_rfl) (by kernel_rfl) (by kernel_rfl) (fun _ _ _ h => h) (Or.inl ⟨by rfl, ?_⟩) (by assumption) ?_
    rotate_left 1
    · intro W' hSw
      obtain ⟨hS1, hS2, hS3, hS4⟩ := hSw
      go_simp
      try with_reducible rfl
    try simp only [Act.put, List.setIfInBounds_toArray, List.set_cons_zero, List.set_cons_succ]
    refine wpAnyH_take (i := 2) (oi := ⟨_, _, _, _, _, _⟩) (v := ?_) rfl (by kernel_rfl) (by kernel_rfl) (by kernel_rfl) (fun _ _ _ h => h) (Or.inl ⟨by rfl, ?_⟩) (by assumption) ?_
    rotate_left 1
    · intro W' hSw
      obtain ⟨hS1, hS2, hS3, hS4⟩ := hSw
      go_simp
      try with_reducible rfl
    try simp only [Act.put, List.setIfInBounds_toArray, List.set_cons_zero, List.set_cons_succ]
    refine wpAnyH_take (i := 3) (oi := ⟨_, _, _, _, _, _⟩) (v := ?_) rfl (by kernel_rfl) (by kernel_rfl) (by kernel_rfl) (fun _ _ _ h => h) (Or.inl ⟨by rfl, ?_⟩) (by assumption) ?_
    rotate_left 1
    · intro W' hSw
      obtain ⟨hS1, hS2, hS3, hS4⟩ := hSw
      go_simp
      try with_reducible rfl
    try simp only [Act.put, List.setIfInBounds_toArray, List.set_cons_zero, List.set_cons_succ]
    refine wpAnyH_take (i := 4) (oi := ⟨_, _, _, _, _, _⟩) (v := ?_) rfl (by kernel_rfl) (by kernel_rfl) (by kernel_rfl) (fun _ _ _ h => h) (Or.inl ⟨by rfl, ?_⟩) (by assumption) ?_
    rotate_left 1
    · intro W' hSw
      obtain ⟨hS1, hS2, hS3, hS4⟩ := hSw
      go_simp
      try with_reducible rfl
    try simp only [Act.put, List.setIfInBounds_toArray, List.set_cons_zero, List.set_cons_succ]
    refine wpAnyH_take (i := 5) (oi := ⟨_, _, _, _, _, _⟩) (v := ?_) rfl (by kernel_rfl) (by kernel_rfl) (by kernel_rfl) (fun _ _ _ h => h) (Or.inl ⟨by rfl, ?_⟩) (by assumption) ?_
    rotate_left 1
    · intro W' hSw
      obtain ⟨hS1, hS2, hS3, hS4⟩ := hSw
      go_simp
      try with_reducible rfl
    try simp only [Act.put, List.setIfInBounds_toArray, List.set_cons_zero, List.set_cons_succ]
    refine wpAnyH_take (i := 6) (oi := ⟨_, _, _, _, _, _⟩) (v := ?_) rfl (by kernel_rfl) (by kernel_rfl) (by kernel_rfl) (fun _ _ _ h => h) (Or.inl ⟨by rfl, ?_⟩) (by assumption) ?_
    rotate_left 1
    · intro W' hSw
      obtain ⟨hS1, hS2, hS3, hS4⟩ := hSw
      go_simp
      try with_reducible rfl
    try simp only [Act.put, List.setIfInBounds_toArray, List.set_cons_zero, List.set_cons_succ]
    refine wpAnyH_take (i := 7) (oi := ⟨_, _, _, _, _, _⟩) (v := ?_) rfl (by kernel_rfl) (by kernel_rfl) (by kernel_rfl) (fun _ _ _ h => h) (Or.inl ⟨by rfl, ?_⟩) (by assumption) ?_
    rotate_left 1
    · intro W' hSw
      obtain ⟨hS1, hS2, hS3, hS4⟩ := hSw
      go_simp
      try with_reducible rfl
    try simp only [Act.put, List.setIfInBounds_toArray, List.set_cons_zero, List.set_cons_succ]
    refine wpAnyH_take (i := 8) (oi := ⟨_, _, _, _, _, _⟩) (v := ?_) rfl (by kernel_rfl) (by kernel_rfl) (by kernel_rfl) (fun _ _ _ h => h) (Or.inl ⟨by rfl, ?_⟩) (by assumption) ?_
    rotate_left 1
    · intro W' hSw
      obtain ⟨hS1, hS2, hS3, hS4⟩ := hSw
      go_simp
      try with_reducible rfl
    try simp only [Act.put, List.setIfInBounds_toArray, List.set_cons_zero, List.set_cons_succ]
    refine wpAnyH_take (i := 9) (oi := ⟨_, _, _, _, _, _⟩) (v := ?_) rfl (by kernel_rfl) (by kernel_rfl) (by kernel_rfl) (fun _ _ _ h => h) (Or.inl ⟨by rfl, ?_⟩) (by assumption) ?_
    rotate_left 1
    · intro W' hSw
      obtain ⟨hS1, hS2, hS3, hS4⟩ := hSw
      go_simp
      try with_reducible rfl
    try simp only [Act.put, List.setIfInBounds_toArray, List.set_cons_zero, List.set_cons_succ]
    refine wpAnyH_take (i := 10) (oi := ⟨_, _, _, _, _, _⟩) (v := ?_) rfl (by kernel_rfl) (by kernel_rfl) (by kernel_rfl) (fun _ _ _ h => h) (Or.inl ⟨by rfl, ?_⟩) (by assumption) ?_
    rotate_left 1
    · intro W' hSw
      obtain ⟨hS1, hS2, hS3, hS4⟩ := hSw
      go_simp
      try with_reducible rfl
    try simp only [Act.put, List.setIfInBounds_toArray, List.set_cons_zero, List.set_cons_succ]
    refine wpAnyH_take (i := 11) (oi := ⟨_, _, _, _, _, _⟩) (v := ?_) rfl (by kernel_rfl) (by kernel_rfl) (by kernel_rfl) (fun _ _ _ h => h) (Or.inl ⟨by rfl, ?_⟩) (by assumption) ?_
    rotate_left 1
    · intro W' hSw
      obtain ⟨hS1, hS2, hS3, hS4⟩ := hSw
      go_simp
      try with_reducible rfl
    try simp only [Act.put, List.setIfInBounds_toArray, List.set_cons_zero, List.set_cons_succ]
    refine wpAnyH_done (by kernel_rfl) ?_ _
    clear hHeld
    by_cases hxt : x = t
    · have hd : decide (x = t) = true := decide_eq_true hxt
      have HP : Hid (Q (.returned (.bool true)) V.drew) := by
        show Q _ _
        rw [HQ.out, decide_eq_true (List.mem_of_getElem? (by rw [← hxt]; exact HXX.out))]
        exact ⟨rfl, HX1.out.trans HXD.out⟩
      try rw [hd]
      clear HI hd HXD HX
      go_wp2_with fail
      try go_ret
      exact HP.out
    · have hd : decide (x = t) = false := decide_eq_false hxt
      have HI' : Hid (∀ j, j < i + 1 → ∀ x, L[j]? = some x → x ≠ t) := by
        intro j hj y hy
        by_cases hji : j = i
        · subst hji
          rw [HXX.out] at hy
          rw [← Option.some.inj hy]; exact hxt
        · exact HI.out j (by omega) y hy
      try rw [hd]
      clear HI hd hxt HX
      go_wp2_with fail
      refine ⟨rfl, rfl, ⟨rfl, rfl, rfl, HXD, i + 1, by omega, ?_, HI'⟩, ?_⟩
      · show Value.int .i64 _ = _
        go_num
      · show L.length - (intOf (Value.int .i64 _)).toNat < L.length - (intOf (F 7)).toNat
        rw [H7.out]
        simp [intOf]; omega
  · obtain rfl : i = L.length := by omega
    have hin' : ¬ ((L.length : Int) < (L.length : Int)) := by omega
    have HP : Hid (Q (.returned (.bool false)) V) := by
      show Q _ _
      rw [HQ.out, decide_eq_false (fun hm => by
        obtain ⟨j, hj, e⟩ := List.getElem_of_mem hm
        exact HI.out j hj t (by rw [List.getElem?_eq_getElem hj, e]) rfl)]
      exact ⟨rfl, HX1.out.trans HX.out⟩
    clear HI
    go_wp2_with fail
    try go_ret
    exact HP.out
end Go.Proofs.Qxb6500787aGreat
