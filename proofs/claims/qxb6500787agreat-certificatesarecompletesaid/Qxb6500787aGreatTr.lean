
import Derived.Test.Qxb6500787aGreatTq
import Derived.StillTailTactics
import Derived.Deep.QuietTactic
import Derived.BigQuiet
import Derived.Deep.RegionHeld
import Derived.Deep.CutRange
import Derived.Laws.ResultCell
import Derived.Laws.Rows
import Derived.DeepKeys
import Derived.DataBytes
import Derived.Laws.StructEq
import Derived.Laws.AppendOwn
import Derived.Laws.MakeOwn
import Derived.Lib.AppendStr
set_option linter.unusedSimpArgs false
set_option linter.unusedVariables false
namespace Go.Proofs.Qxb6500787aGreat
open Go.RowKit Go.Blk
attribute [local go_sem ↓] execOp_load execOp_store execOp_alloc
attribute [local go_sem] Tryz.ld26 Tryz.st26 Tryz.ld27 Tryz.st27 Tryz.ld28 Tryz.st28 Tryz.ld3 Tryz.st3 Tryz.ld29 Tryz.st29 Tryz.ld44 Tryz.st44 Tryz.ld4 Tryz.st4 Tryz.ld50 Tryz.st50 Tryz.ld32 Tryz.st32 Tryz.ld49 Tryz.st49 Tryz.ld68 Tryz.st68 Tryz.ld9 Tryz.st9 Tryz.ld40 Tryz.st40 Tryz.ld138 Tryz.st138 Tryz.ld139 Tryz.st139 Tryz.ld146 Tryz.st146 Tryz.ld183 Tryz.st183 Tryz.ld184 Tryz.st184 Tryz.ld192 Tryz.st192 Tryz.ld195 Tryz.st195 Tryz.ld217 Tryz.st217 Tryz.ld159 Tryz.st159 Tryz.ld142 Tryz.st142 Tryz.ld2 Tryz.st2 Tryz.ld5 Tryz.st5 Tryz.ld12 Tryz.st12 Tryz.ld21 Tryz.st21 Tryz.ld22 Tryz.st22 Tryz.ld24 Tryz.st24 Tryz.ld58 Tryz.st58 Tryz.ld97 Tryz.st97 Tryz.ld101 Tryz.st101 Tryz.ld116 Tryz.st116 Tryz.ld121 Tryz.st121 Tryz.ld135 Tryz.st135 Tryz.ld136 Tryz.st136 Tryz.ld143 Tryz.st143 Tryz.ld148 Tryz.st148 Tryz.ld154 Tryz.st154 Tryz.ld173 Tryz.st173 Tryz.ld187 Tryz.st187 Tryz.ld222 Tryz.st222 Tryz.ld241 Tryz.st241 Tryz.ld248 Tryz.st248 Tryz.ld268 Tryz.st268 Tryz.ld272 Tryz.st272 Tryz.ld153 Tryz.st153 Tryz.ld255 Tryz.st255 Tryz.ld256 Tryz.st256 Tryz.ld129 Tryz.st129 Tryz.ld152 Tryz.st152 Tryz.ld31 Tryz.st31 Tryz.ld46 Tryz.st46 Tryz.ld52 Tryz.st52 Tryz.ld54 Tryz.st54 Tryz.ld60 Tryz.st60 Tryz.ld70 Tryz.st70 Tryz.ld74 Tryz.st74 Tryz.ld93 Tryz.st93 Tryz.ld141 Tryz.st141 Tryz.ld151 Tryz.st151 Tryz.ld170 Tryz.st170 Tryz.ld186 Tryz.st186 Tryz.ld189 Tryz.st189 Tryz.ld194 Tryz.st194 Tryz.ld197 Tryz.st197 Tryz.ld219 Tryz.st219 Tryz.ld224 Tryz.st224 Tryz.ld230 Tryz.st230 Tryz.ld235 Tryz.st235 Tryz.ld243 Tryz.st243 Tryz.ld247 Tryz.st247 Tryz.ld252 Tryz.st252 Tryz.ld258 Tryz.st258 Tryz.al153 Tryz.al255 Tryz.al256 Tryz.al129 Tryz.al152 Tryz.al31 Tryz.al46 Tryz.al52 Tryz.al54 Tryz.al60 Tryz.al70 Tryz.al74 Tryz.al93 Tryz.al141 Tryz.al151 Tryz.al170 Tryz.al186 Tryz.al189 Tryz.al194 Tryz.al197 Tryz.al219 Tryz.al224 Tryz.al230 Tryz.al235 Tryz.al243 Tryz.al247 Tryz.al252 Tryz.al258
attribute [local go_sem] Request.length_enc Request.ok_enc Request.all_get Request.all_set Request.kind_get Request.kind_set Request.blob_get Request.blob_set Request.items_get Request.items_set Request.pred_get Request.pred_set Request.slots_get Request.slots_set Trace.length_enc Trace.ok_enc Trace.all_get Trace.all_set Trace.op_get Trace.op_set Trace.calls_get Trace.calls_set Item.length_enc Item.ok_enc Item.all_get Item.all_set Item.del_get Item.del_set Item.pred_get Item.pred_set Item.args_get Item.args_set Reply.length_enc Reply.ok_enc Reply.all_get Reply.all_set Reply.code_get Reply.code_set Reply.kind_get Reply.kind_set Reply.index_get Reply.index_set Reply.yes_get Reply.yes_set Reply.preds_get Reply.preds_set Reply.rules_get Reply.rules_set Reply.arity_get Reply.arity_set Reply.rows_get Reply.rows_set Reply.fact_get Reply.fact_set Reply.fact_del_get Reply.fact_del_set Reply.fact_pred_get Reply.fact_pred_set Reply.fact_args_get Reply.fact_args_set GEntry.length_enc GEntry.ok_enc GEntry.all_get GEntry.all_set GEntry.seq_get GEntry.seq_set GEntry.kind_get GEntry.kind_set GEntry.code_get GEntry.code_set GOp.length_enc GOp.ok_enc GOp.all_get GOp.all_set GOp.kind_get GOp.kind_set GOp.raw_get GOp.raw_set Reader.length_enc Reader.ok_enc Reader.all_get Reader.all_set Reader.buf_get Reader.buf_set Reader.at__get Reader.at__set Slot.length_enc Slot.ok_enc Slot.all_get Slot.all_set Slot.bound_get Slot.bound_set Slot.name_get Slot.name_set Session.length_enc Session.ok_enc Session.all_get Session.all_set Session.svc_get Session.svc_set Session.buf_get Session.buf_set Session.closed_get Session.closed_set GProgram.length_enc GProgram.ok_enc GProgram.all_get GProgram.all_set GProgram.pool_get GProgram.pool_set GProgram.preds_get GProgram.preds_set GProgram.rules_get GProgram.rules_set GProgram.strata_get GProgram.strata_set PredInfo.length_enc PredInfo.ok_enc PredInfo.all_get PredInfo.all_set PredInfo.arity_get PredInfo.arity_set PredInfo.base_get PredInfo.base_set PredInfo.stratum_get PredInfo.stratum_set Change.length_enc Change.ok_enc Change.all_get Change.all_set Change.del_get Change.del_set Change.pred_get Change.pred_set Change.t_get Change.t_set Store.length_enc Store.ok_enc Store.all_get Store.all_set Store.names_get Store.names_set Store.arity_get Store.arity_set Store.rows_get Store.rows_set Src.length_enc Src.ok_enc Src.all_get Src.all_set Src.b_get Src.b_set Src.at__get Src.at__set Atom.length_enc Atom.ok_enc Atom.all_get Atom.all_set Atom.pred_get Atom.pred_set Atom.args_get Atom.args_set GRule.length_enc GRule.ok_enc GRule.all_get GRule.all_set GRule.head_get GRule.head_set GRule.body_get GRule.body_set GRule.head_pred_get GRule.head_pred_set GRule.head_args_get GRule.head_args_set Cert.length_enc Cert.ok_enc Cert.all_get Cert.all_set Cert.names_get Cert.names_set Cert.nodes_get Cert.nodes_set Fact.length_enc Fact.ok_enc Fact.all_get Fact.all_set Fact.pred_get Fact.pred_set Fact.t_get Fact.t_set Literal.length_enc Literal.ok_enc Literal.all_get Literal.all_set Literal.neg_get Literal.neg_set Literal.atom_get Literal.atom_set Literal.atom_pred_get Literal.atom_pred_set Literal.atom_args_get Literal.atom_args_set Engine.length_enc Engine.ok_enc Engine.all_get Engine.all_set Engine.prog_get Engine.prog_set Engine.st_get Engine.st_set SrcCertm.length_enc SrcCertm.ok_enc SrcCertm.all_get SrcCertm.all_set SrcCertm.b_get SrcCertm.b_set SrcCertm.at__get SrcCertm.at__set GNode.length_enc GNode.ok_enc GNode.all_get GNode.all_set GNode.rule_get GNode.rule_set GNode.pred_get GNode.pred_set GNode.vals_get GNode.vals_set GNode.refs_get GNode.refs_set Term.length_enc Term.ok_enc Term.all_get Term.all_set Term.var_get Term.var_set Term.n_get Term.n_set Env.length_enc Env.ok_enc Env.all_get Env.all_set Env.val_get Env.val_set Env.set_get Env.set_set
attribute [local go_sem] size_put size_ext blk_put free_put blk_alloc free_alloc blk_drew free_drew blk_ext free_ext lookOr_some putOr_some segAt_some cellAt_some storeIn_some put_put put_alloc_new length_arr ok_arr_u8 ok_arr_u32 ok_arr_u64 ok_arr_i64 ok_arr_sl cellsV_agg cellsV_int cellsV_bool cellsV_string cellsV_pointer cellsV_slice cellsV_sl ok_int ok_bool ok_string ok_pointer ok_slice ok_sl toList_arr seg_arr set_arr nth_splice nth_splice0 seg_splice seg_splice0 splice_splice splice_splice0 length_splice_if
attribute [local go_sem ↓] execOp_box
attribute [local go_sem] box_run nth_arr_u8 put_arr_u8 blk_drewN free_drewN put_drewN blk_raw free_raw
theorem make50 (w : World) (n : Nat) (hn : n ≤ 1000) : (makeOp 43 (.int .i64 0) (.int .i64 (n : Int))).run Tryz.prog w = .ok (.value (.slice (some ⟨w.heap.size, 0, none⟩) 0 n)) (w.alloc (.cells (madeCells (Value.string ⟨#[]⟩).cells (n * 1)) 9)) := by
  obtain ⟨i, hi, hz, hsz, hby⟩ : ∃ i, Tryz.prog.info? 9 = some i ∧ i.zero = some (.string ⟨#[]⟩) ∧ i.size = 1 ∧ i.bytes = 16 := by
    have hq : (Tryz.prog.info? 9).map (fun i => (i.zero, i.size, i.bytes)) = some (some (.string ⟨#[]⟩), 1, 16) := by kernel_rfl
    cases hx : Tryz.prog.info? 9 with
    | none => rw [hx] at hq; simp at hq
    | some i =>
      rw [hx] at hq
      simp only [Option.map_some, Option.some.injEq, Prod.mk.injEq] at hq
      exact ⟨i, rfl, hq.1, hq.2.1, hq.2.2⟩
  have hr := run_make (P := Tryz.prog) w 43 9 i _ Tryz.underlying43 hi hz .i64 .i64 0 (n : Int) (by omega) (by omega) (by rw [hby]; omega) (by omega)
  unfold makeOp
  rw [Sem.run_bind, hr, hsz, Int.toNat_natCast]
  rfl
/-- The names of a tuple's first columns. -/
def nmsT (N : List (List UInt8)) (t : Tup) (ar : Nat) : List (List UInt8) := (List.range ar).map fun c => N.getD (tg t c).toNat []
theorem nmsT_len (N : List (List UInt8)) (t : Tup) (ar : Nat) : (nmsT N t ar).length = ar := by simp [nmsT]
theorem nmsT_at (N : List (List UInt8)) (t : Tup) {ar c : Nat} (h : c < ar) : (nmsT N t ar)[c]? = some (N.getD (tg t c).toNat []) := by
  unfold nmsT
  rw [List.getElem?_map, List.getElem?_range h]; rfl
def nsI (W1 : World) (bi b4 ar : Nat) (L : List (List UInt8)) (f : Nat → Value) (V : World) : Prop := f 0 = .pointer (some ⟨bi, 0, none⟩) ∧ f 2 = .int .i64 (ar : Int) ∧ f 4 = .pointer (some ⟨b4, 0, none⟩) ∧ ∃ (i : Nat) (a : Option Addr) (n c : Nat), i ≤ ar ∧ f 7 = .slice a n c ∧ f 8 = .int .i64 (i : Nat) ∧ Hid (OutG encS 1 9 W1 V a n c (L.take i))
attribute [local go_sem ↓] execOp_bslice execOp_build execOp_make
attribute [local go_sem] bslice50 make50
set_option maxRecDepth 100000 in
theorem frame28n (f : Nat → Value) : frameN 28 f = #[f 0, f 1, f 2, f 3, f 4, f 5, f 6, f 7, f 8, f 9, f 10, f 11, f 12, f 13, f 14, f 15, f 16, f 17, f 18, f 19, f 20, f 21, f 22, f 23, f 24, f 25, f 26, f 27] := by kernel_rfl
set_option maxRecDepth 40000 in
set_option maxHeartbeats 4000000 in
theorem names_any {B : Nat} {O : Own} {W : World} {g bi : Nat} {s : InsS} (h : InsAt B O W g bi s) (t : Tup) (ar : Nat) (har : ar ≤ 4) (hv : ∀ c, c < ar → 0 ≤ tg t c ∧ (tg t c).toNat < s.N.length) : Calls Tryz.prog 144 #[.pointer (some ⟨bi, 0, none⟩), .agg (arr i64v t).toArray, .int .i64 (ar : Int)] W fun e V => ∃ a c, e = .returned (.slice a ar c) ∧ OutG encS 1 9 W V a ar c (nmsT s.N t ar) := by
  obtain ⟨Q, hQ⟩ : ∃ Q : Ending → World → Prop, Q = fun e V => ∃ a c, e = .returned (.slice a ar c) ∧ OutG encS 1 9 W V a ar c (nmsT s.N t ar) := ⟨_, rfl⟩
  rw [← hQ]
  have HQ := hid_of hQ
  obtain ⟨CI, bst, be, A, hm⟩ := h
  have HM := hid_of hm
  have HV := hid_of hv
  have ci4 := hm.ic.c4
  have cl : 4 < CI.length := by rw [hm.ic.len]; omega
  obtain ⟨L, hL⟩ : ∃ L, L = nmsT s.N t ar := ⟨_, rfl⟩
  have hLl : L.length = ar := by rw [hL]; exact nmsT_len _ _ _
  have HL := hid_of hL
  have HLL := hid_of hLl
  have h1000 : ar ≤ 1000 := by omega
  clear hQ hm hv hL hLl
  go_enter Tryz.func144, Tryz.ntmps144
  go_upto_region 1 with fail
  refine wp_world (fun V => W.Extends V ∧ blk V W.heap.size = some (arr i64v t)) ⟨extends_alloc (ext_Ext (Ext.refl _)) _, by rw [blk_alloc, if_pos rfl]⟩ ?_
  rintro W1 ⟨hx1, hb4⟩
  obtain ⟨b4, eb4⟩ : ∃ b4, b4 = W.heap.size := ⟨_, rfl⟩
  rw [← eb4] at hb4 ⊢
  have HX1 := hid_of hx1
  have HB4 := hid_of hb4
  clear eb4 hx1 hb4
  go_upto_region 3 with fail
  refine wp_world (fun V => OutG encS 1 9 W1 V (some ⟨W1.heap.size, 0, none⟩) 0 ar (L.take 0)) ?_ ?_
  · exact OutG.made W1 W1 (ext_Ext (Ext.refl _)) _ ar (by simp [size_madeCells]) (by omega)
  intro V1 hV1
  have HI0 := hid_of hV1
  clear hV1
  refine wp_loop_f 28 (nsI W1 bi b4 ar L) (fun f _ => ar - (intOf (f 8)).toNat) rfl ⟨rfl, rfl, rfl, 0, _, _, _, by omega, rfl, rfl, HI0⟩ ?_
  clear HI0
  intro F V hrel
  obtain ⟨f0, f2, f4, i, a, n, c, hi, f7, f8, HI⟩ := hrel
  have H8 := hid_of f8
  rw [frame28n, f0, f2, f4, f7, f8]
  clear f0 f2 f4 f7 f8
  by_cases hin : i < ar
  · have hin' : (i : Int) < (ar : Int) := by omega
    have hxV := HI.out.2.1
    have hb4 : blk V b4 = some (arr i64v t) := (hxV.blk (blk_lt HB4.out)).trans HB4.out
    have hmV := HM.out.ext (HX1.out.trans hxV)
    have hbi := hmV.cell
    have i0 : (0 : Int) ≤ (i : Int) := by omega
    have i1 : (i : Int) < 4 := by omega
    have i2 : ((i : Int)).toNat = i := by omega
    have ht := nth_t t i (by omega)
    obtain ⟨v0, v1⟩ := HV.out i hin
    obtain ⟨y, hy⟩ : ∃ y : Nat, tg t i = (y : Int) := ⟨(tg t i).toNat, by omega⟩
    rw [hy, Int.toNat_natCast] at v1
    rw [hy] at ht
    obtain ⟨x, hx⟩ : ∃ x, s.N[y]? = some x := ⟨_, List.getElem?_eq_getElem v1⟩
    have hsn := sname_any (hmV.st.ext (extd V)) hx
    have hLx : L[i]? = some x := by
      rw [HL.out, nmsT_at _ _ hin, hy, Int.toNat_natCast, List.getD_eq_getElem?_getD, hx]; rfl
    obtain ⟨a', c', V', hrun, ho', -⟩ := (HI.out.ext (extd V)).app el50 x (by rw [List.length_take]; omega) (encS x).toArray rfl 1
    rw [← take_at hLx] at ho'
    have HI' := hid_of ho'
    have l4 : (arr i64v t).length = 4 := length_arr _ _
    have hS1 : ∀ V', W1.Extends V' → blk V' bi = some CI ∧ blk V' b4 = some (arr i64v t) := fun V' hx => ⟨(HM.out.ext (HX1.out.trans hx)).cell, (hx.blk (blk_lt HB4.out)).trans HB4.out⟩
    have hSd := hS1 V.drew (extends_drew hxV)
    have hSa : ∀ X, blk (V.drew.alloc X) bi = some CI ∧ blk (V.drew.alloc X) b4 = some (arr i64v t) := fun X => hS1 _ (extends_alloc (extends_drew hxV) X)
    have hSe := hS1 V' HI'.out.2.1
    clear HI hxV hmV hLx ho' hx v0 v1 hy hS1
    go_upto_region 5 with fail
    refine wp_region_held_drew (S := fun W' => blk W' bi = some CI ∧ blk W' b4 = some (arr i64v t)) (by kernel_rfl) hSd (fun hHeld => ?_)
    refine wpAnyH_take (i := 0) (oi := ⟨_, _, _, _, _, _⟩) (v := ?_) rfl (by kernel_rfl) (by kernel_rfl) (by kernel_rfl) (fun _ _ _ h => h) (Or.inl ⟨by rfl, ?_⟩) (by assumption) ?_
    rotate_left 1
    · intro W' hSw
      obtain ⟨hS1, hS2⟩ := hSw
      go_simp
      try with_reducible rfl
    try simp only [Act.put, List.setIfInBounds_toArray, List.set_cons_zero, List.set_cons_succ]
    refine wpAnyH_take (i := 1) (oi := ⟨_, _, _, _, _, _⟩) (v := ?_) rfl (by kernel_rfl) (by kernel_rfl) (by kernel_rfl) (fun _ _ _ h => h) (Or.inl ⟨by rfl, ?_⟩) (by assumption) ?_
    rotate_left 1
    · intro W' hSw
      obtain ⟨hS1, hS2⟩ := hSw
      go_simp
      try with_reducible rfl
    try simp only [Act.put, List.setIfInBounds_toArray, List.set_cons_zero, List.set_cons_succ]
    refine wpAnyH_take (i := 2) (oi := ⟨_, _, _, _, _, _⟩) (v := ?_) rfl (by kernel_rfl) (by kernel_rfl) (by kernel_rfl) (fun _ _ _ h => h) (Or.inl ⟨by rfl, ?_⟩) (by assumption) ?_
    rotate_left 1
    · intro W' hSw
      obtain ⟨hS1, hS2⟩ := hSw
      go_simp
      try with_reducible rfl
    try simp only [Act.put, List.setIfInBounds_toArray, List.set_cons_zero, List.set_cons_succ]
    refine wpAnyH_take (i := 3) (oi := ⟨_, _, _, _, _, _⟩) (v := ?_) rfl (by kernel_rfl) (by kernel_rfl) (by kernel_rfl) (fun _ _ _ h => h) (Or.inl ⟨by rfl, ?_⟩) (by assumption) ?_
    rotate_left 1
    · intro W' hSw
      obtain ⟨hS1, hS2⟩ := hSw
      go_simp
      try with_reducible rfl
    try simp only [Act.put, List.setIfInBounds_toArray, List.set_cons_zero, List.set_cons_succ]
    refine wpAnyH_take (i := 4) (oi := ⟨_, _, _, _, _, _⟩) (v := ?_) rfl (by kernel_rfl) (by kernel_rfl) (by kernel_rfl) (fun _ _ _ h => h) (Or.inl ⟨by rfl, ?_⟩) (by assumption) ?_
    rotate_left 1
    · intro W' hSw
      obtain ⟨hS1, hS2⟩ := hSw
      go_simp
      try with_reducible rfl
    try simp only [Act.put, List.setIfInBounds_toArray, List.set_cons_zero, List.set_cons_succ]
    refine wpAnyH_take (i := 5) (oi := ⟨_, _, _, _, _, _⟩) (v := ?_) rfl (by kernel_rfl) (by kernel_rfl) (by kernel_rfl) (fun _ _ _ h => h) (Or.inl ⟨by rfl, ?_⟩) (by assumption) ?_
    rotate_left 1
    · intro W' hSw
      obtain ⟨hS1, hS2⟩ := hSw
      go_simp
      try with_reducible rfl
    try simp only [Act.put, List.setIfInBounds_toArray, List.set_cons_zero, List.set_cons_succ]
    refine wpAnyH_take (i := 6) (oi := ⟨_, _, _, _, _, _⟩) (v := ?_) rfl (by kernel_rfl) (by kernel_rfl) (by kernel_rfl) (fun _ _ _ h => h) (Or.inl ⟨by rfl, ?_⟩) (by assumption) ?_
    rotate_left 1
    · intro W' hSw
      obtain ⟨hS1, hS2⟩ := hSw
      go_simp
      try with_reducible rfl
    try simp only [Act.put, List.setIfInBounds_toArray, List.set_cons_zero, List.set_cons_succ]
    refine wpAnyH_take (i := 7) (oi := ⟨_, _, _, _, _, _⟩) (v := ?_) rfl (by kernel_rfl) (by kernel_rfl) (by kernel_rfl) (fun _ _ _ h => h) (Or.inl ⟨by rfl, ?_⟩) (by assumption) ?_
    rotate_left 1
    · intro W' hSw
      obtain ⟨hS1, hS2⟩ := hSw
      go_simp
      try with_reducible rfl
    try simp only [Act.put, List.setIfInBounds_toArray, List.set_cons_zero, List.set_cons_succ]
    refine wpAnyH_ready (rs := [8]) (by kernel_rfl) (by simp) ?_
    refine AllReadyH.cons (o := ⟨_, _, _, _, _, _⟩) rfl (fun K' hK => ?_) AllReadyH.nil
    go_simp
    refine hsn.mono ?_
    rintro en V6 ⟨rfl, e9⟩
    replace e9 := e9.symm
    subst e9
    dsimp only
    refine hK.out _ _ hSd (fun hHeld => ?_)
    clear hK K'
    try simp only [Act.put, List.setIfInBounds_toArray, List.set_cons_zero, List.set_cons_succ]
    refine wpAnyH_ready (rs := [9]) (by kernel_rfl) (by simp) ?_
    refine AllReadyH.cons (o := ⟨_, _, _, _, _, _⟩) rfl (fun K' hK => ?_) AllReadyH.nil
    go_simp
    refine hK.out _ _ (hSa _) (fun hHeld => ?_)
    clear hK K'
    try simp only [Act.put, List.setIfInBounds_toArray, List.set_cons_zero, List.set_cons_succ]
    refine wpAnyH_ready (rs := [10]) (by kernel_rfl) (by simp) ?_
    refine AllReadyH.cons (o := ⟨_, _, _, _, _, _⟩) rfl (fun K' hK => ?_) AllReadyH.nil
    refine wp_append_run _ _ 43 rfl _ _ _ _ rfl rfl hrun ?_
    refine hK.out _ _ hSe (fun hHeld => ?_)
    clear hK K'
    try simp only [Act.put, List.setIfInBounds_toArray, List.set_cons_zero, List.set_cons_succ]
    refine wpAnyH_take (i := 11) (oi := ⟨_, _, _, _, _, _⟩) (v := ?_) rfl (by kernel_rfl) (by kernel_rfl) (by kernel_rfl) (fun _ _ _ h => h) (Or.inl ⟨by rfl, ?_⟩) (by assumption) ?_
    rotate_left 1
    · intro W' hSw
      obtain ⟨hS1, hS2⟩ := hSw
      go_simp
      try with_reducible rfl
    try simp only [Act.put, List.setIfInBounds_toArray, List.set_cons_zero, List.set_cons_succ]
    refine wpAnyH_done (by kernel_rfl) ?_ _
    go_wp2_with fail
    refine ⟨rfl, rfl, ⟨rfl, rfl, rfl, i + 1, _, _, _, by omega, rfl, ?_, HI'⟩, ?_⟩
    · show Value.int .i64 _ = _
      go_num
    · show ar - (intOf (Value.int .i64 _)).toNat < ar - (intOf (F 8)).toNat
      rw [H8.out]
      simp [intOf]; omega
  · have hin' : ¬ (i : Int) < (ar : Int) := by omega
    have HP : Hid (Q (.returned (.slice a n c)) V) := by
      show Q _ _
      have h1 := HI.out
      rw [List.take_of_length_le (by rw [HLL.out]; omega)] at h1
      obtain rfl : n = ar := by rw [h1.2.2, HLL.out]
      rw [HQ.out, ← HL.out]
      exact ⟨a, c, rfl, h1.base HX1.out⟩
    clear HI
    go_wp2_with fail
    try go_ret
    exact HP.out
def hoI (W : World) (a : Option Addr) (n c : Nat) (nm : List UInt8) (L : List (List UInt8)) (f : Nat → Value) (V : World) : Prop := f 0 = .slice a n c ∧ f 1 = .string ⟨nm.toArray⟩ ∧ Hid (∃ W', W' = W ∧ V = W') ∧ ∃ i : Nat, i ≤ n ∧ f 5 = .int .i64 (i : Nat) ∧ Hid (∀ j x, j < i → L[j]? = some x → x ≠ nm)
set_option maxRecDepth 100000 in
theorem frame18h (f : Nat → Value) : frameN 18 f = #[f 0, f 1, f 2, f 3, f 4, f 5, f 6, f 7, f 8, f 9, f 10, f 11, f 12, f 13, f 14, f 15, f 16, f 17] := by kernel_rfl
set_option maxRecDepth 40000 in
set_option maxHeartbeats 4000000 in
theorem holds_any (W : World) (a : Option Addr) (n c : Nat) (L : List (List UInt8)) (h : Rw encS 1 W a n L) (hn : n ≤ 1000000000) (nm : List UInt8) : Calls Tryz.prog 168 #[.slice a n c, .string ⟨nm.toArray⟩] W fun e V => e = .returned (.bool (decide (nm ∈ L))) ∧ V = W := by
  obtain ⟨Q, hQ⟩ : ∃ Q : Ending → World → Prop, Q = fun e V => e = .returned (.bool (decide (nm ∈ L))) ∧ V = W := ⟨_, rfl⟩
  rw [← hQ]
  have HQ := hid_of hQ
  have HR := hid_of h
  have HL := hid_of h.1
  clear hQ h
  go_enter Tryz.func168, Tryz.ntmps168
  go_upto_region 2 with fail
  refine wp_loop_f 18 (hoI W a n c nm L) (fun f _ => n - (intOf (f 5)).toNat) rfl ⟨rfl, rfl, ⟨_, rfl, rfl⟩, 0, by omega, rfl, fun j x h => absurd h (Nat.not_lt_zero _)⟩ ?_
  intro F V hrel
  obtain ⟨f0, f1, HV, i, hi, f5, HO⟩ := hrel
  have H5 := hid_of f5
  rw [frame18h, f0, f1, f5]
  clear f0 f1 f5
  obtain ⟨W', e1, e2⟩ := HV.out
  subst e1
  subst e2
  by_cases hin : i < n
  · have hin' : (i : Int) < (n : Int) := by omega
    obtain ⟨x, hx⟩ : ∃ x, L[i]? = some x := ⟨_, List.getElem?_eq_getElem (by rw [HL.out]; exact hin)⟩
    obtain ⟨b, C, rfl, g2, g3, g4⟩ := str_at HR.out hx
    have p0 : (0 : Int) ≤ (i : Int) := by omega
    have p2 : ((i : Int)).toNat = i := by omega
    by_cases hb : x = nm
    · subst hb
      have HP : Hid (Q (.returned (.bool true)) V) := by
        show Q _ _
        rw [HQ.out]
        exact ⟨by rw [decide_eq_true (List.mem_of_getElem? hx)], rfl⟩
      clear HO hx HV
      go_wp2_with fail
      try go_ret
      exact HP.out
    · have hne := str_ne hb
      have hbq := str_beq hb
      have HO' : Hid (∀ j x, j < i + 1 → L[j]? = some x → x ≠ nm) := fun j y h1 h2 => by
        by_cases h3 : j = i
        · subst h3
          rw [hx] at h2
          rw [← Option.some.inj h2]; exact hb
        · exact HO.out j y (by omega) h2
      clear HO hx
      go_wp2_with fail
      refine ⟨rfl, rfl, ⟨rfl, rfl, HV, i + 1, by omega, ?_, HO'⟩, ?_⟩
      · show Value.int .i64 _ = _
        go_num
      · show n - (intOf (Value.int .i64 _)).toNat < n - (intOf (F 5)).toNat
        rw [H5.out]
        simp [intOf]; omega
  · have hin' : ¬ (i : Int) < (n : Int) := by omega
    have HP : Hid (Q (.returned (.bool false)) V) := by
      show Q _ _
      rw [HQ.out]
      refine ⟨?_, rfl⟩
      rw [decide_eq_false (fun hm => ?_)]
      obtain ⟨j, hj⟩ := List.mem_iff_getElem?.1 hm
      have := (List.getElem?_eq_some_iff.1 hj).1
      rw [HL.out] at this
      exact HO.out j nm (by omega) hj rfl
    clear HO HV
    go_wp2_with fail
    try go_ret
    exact HP.out
end Go.Proofs.Qxb6500787aGreat
