
import Derived.Test.Qxb6500787aGreatTo
import Derived.StillTailTactics
import Derived.Deep.QuietTactic
import Derived.BigQuiet
import Derived.Deep.RegionHeld
import Derived.Deep.CutRange
import Derived.Laws.ResultCell
import Derived.Laws.Rows
import Derived.DeepKeys
import Derived.DataBytes
import Derived.Laws.StructEq
import Derived.Laws.AppendOwn
import Derived.Laws.MakeOwn
import Derived.Lib.AppendStr
set_option linter.unusedSimpArgs false
set_option linter.unusedVariables false
namespace Go.Proofs.Qxb6500787aGreat
open Go.RowKit Go.Blk
attribute [local go_sem ↓] execOp_load execOp_store execOp_alloc
attribute [local go_sem] Tryz.ld26 Tryz.st26 Tryz.ld27 Tryz.st27 Tryz.ld28 Tryz.st28 Tryz.ld3 Tryz.st3 Tryz.ld29 Tryz.st29 Tryz.ld44 Tryz.st44 Tryz.ld4 Tryz.st4 Tryz.ld50 Tryz.st50 Tryz.ld32 Tryz.st32 Tryz.ld49 Tryz.st49 Tryz.ld68 Tryz.st68 Tryz.ld9 Tryz.st9 Tryz.ld40 Tryz.st40 Tryz.ld138 Tryz.st138 Tryz.ld139 Tryz.st139 Tryz.ld146 Tryz.st146 Tryz.ld183 Tryz.st183 Tryz.ld184 Tryz.st184 Tryz.ld192 Tryz.st192 Tryz.ld195 Tryz.st195 Tryz.ld217 Tryz.st217 Tryz.ld159 Tryz.st159 Tryz.ld142 Tryz.st142 Tryz.ld2 Tryz.st2 Tryz.ld5 Tryz.st5 Tryz.ld12 Tryz.st12 Tryz.ld21 Tryz.st21 Tryz.ld22 Tryz.st22 Tryz.ld24 Tryz.st24 Tryz.ld58 Tryz.st58 Tryz.ld97 Tryz.st97 Tryz.ld101 Tryz.st101 Tryz.ld116 Tryz.st116 Tryz.ld121 Tryz.st121 Tryz.ld135 Tryz.st135 Tryz.ld136 Tryz.st136 Tryz.ld143 Tryz.st143 Tryz.ld148 Tryz.st148 Tryz.ld154 Tryz.st154 Tryz.ld173 Tryz.st173 Tryz.ld187 Tryz.st187 Tryz.ld222 Tryz.st222 Tryz.ld241 Tryz.st241 Tryz.ld248 Tryz.st248 Tryz.ld268 Tryz.st268 Tryz.ld272 Tryz.st272 Tryz.ld153 Tryz.st153 Tryz.ld255 Tryz.st255 Tryz.ld256 Tryz.st256 Tryz.ld129 Tryz.st129 Tryz.ld152 Tryz.st152 Tryz.ld31 Tryz.st31 Tryz.ld46 Tryz.st46 Tryz.ld52 Tryz.st52 Tryz.ld54 Tryz.st54 Tryz.ld60 Tryz.st60 Tryz.ld70 Tryz.st70 Tryz.ld74 Tryz.st74 Tryz.ld93 Tryz.st93 Tryz.ld141 Tryz.st141 Tryz.ld151 Tryz.st151 Tryz.ld170 Tryz.st170 Tryz.ld186 Tryz.st186 Tryz.ld189 Tryz.st189 Tryz.ld194 Tryz.st194 Tryz.ld197 Tryz.st197 Tryz.ld219 Tryz.st219 Tryz.ld224 Tryz.st224 Tryz.ld230 Tryz.st230 Tryz.ld235 Tryz.st235 Tryz.ld243 Tryz.st243 Tryz.ld247 Tryz.st247 Tryz.ld252 Tryz.st252 Tryz.ld258 Tryz.st258 Tryz.al153 Tryz.al255 Tryz.al256 Tryz.al129 Tryz.al152 Tryz.al31 Tryz.al46 Tryz.al52 Tryz.al54 Tryz.al60 Tryz.al70 Tryz.al74 Tryz.al93 Tryz.al141 Tryz.al151 Tryz.al170 Tryz.al186 Tryz.al189 Tryz.al194 Tryz.al197 Tryz.al219 Tryz.al224 Tryz.al230 Tryz.al235 Tryz.al243 Tryz.al247 Tryz.al252 Tryz.al258
attribute [local go_sem] Request.length_enc Request.ok_enc Request.all_get Request.all_set Request.kind_get Request.kind_set Request.blob_get Request.blob_set Request.items_get Request.items_set Request.pred_get Request.pred_set Request.slots_get Request.slots_set Trace.length_enc Trace.ok_enc Trace.all_get Trace.all_set Trace.op_get Trace.op_set Trace.calls_get Trace.calls_set Item.length_enc Item.ok_enc Item.all_get Item.all_set Item.del_get Item.del_set Item.pred_get Item.pred_set Item.args_get Item.args_set Reply.length_enc Reply.ok_enc Reply.all_get Reply.all_set Reply.code_get Reply.code_set Reply.kind_get Reply.kind_set Reply.index_get Reply.index_set Reply.yes_get Reply.yes_set Reply.preds_get Reply.preds_set Reply.rules_get Reply.rules_set Reply.arity_get Reply.arity_set Reply.rows_get Reply.rows_set Reply.fact_get Reply.fact_set Reply.fact_del_get Reply.fact_del_set Reply.fact_pred_get Reply.fact_pred_set Reply.fact_args_get Reply.fact_args_set GEntry.length_enc GEntry.ok_enc GEntry.all_get GEntry.all_set GEntry.seq_get GEntry.seq_set GEntry.kind_get GEntry.kind_set GEntry.code_get GEntry.code_set GOp.length_enc GOp.ok_enc GOp.all_get GOp.all_set GOp.kind_get GOp.kind_set GOp.raw_get GOp.raw_set Reader.length_enc Reader.ok_enc Reader.all_get Reader.all_set Reader.buf_get Reader.buf_set Reader.at__get Reader.at__set Slot.length_enc Slot.ok_enc Slot.all_get Slot.all_set Slot.bound_get Slot.bound_set Slot.name_get Slot.name_set Session.length_enc Session.ok_enc Session.all_get Session.all_set Session.svc_get Session.svc_set Session.buf_get Session.buf_set Session.closed_get Session.closed_set GProgram.length_enc GProgram.ok_enc GProgram.all_get GProgram.all_set GProgram.pool_get GProgram.pool_set GProgram.preds_get GProgram.preds_set GProgram.rules_get GProgram.rules_set GProgram.strata_get GProgram.strata_set PredInfo.length_enc PredInfo.ok_enc PredInfo.all_get PredInfo.all_set PredInfo.arity_get PredInfo.arity_set PredInfo.base_get PredInfo.base_set PredInfo.stratum_get PredInfo.stratum_set Change.length_enc Change.ok_enc Change.all_get Change.all_set Change.del_get Change.del_set Change.pred_get Change.pred_set Change.t_get Change.t_set Store.length_enc Store.ok_enc Store.all_get Store.all_set Store.names_get Store.names_set Store.arity_get Store.arity_set Store.rows_get Store.rows_set Src.length_enc Src.ok_enc Src.all_get Src.all_set Src.b_get Src.b_set Src.at__get Src.at__set Atom.length_enc Atom.ok_enc Atom.all_get Atom.all_set Atom.pred_get Atom.pred_set Atom.args_get Atom.args_set GRule.length_enc GRule.ok_enc GRule.all_get GRule.all_set GRule.head_get GRule.head_set GRule.body_get GRule.body_set GRule.head_pred_get GRule.head_pred_set GRule.head_args_get GRule.head_args_set Cert.length_enc Cert.ok_enc Cert.all_get Cert.all_set Cert.names_get Cert.names_set Cert.nodes_get Cert.nodes_set Fact.length_enc Fact.ok_enc Fact.all_get Fact.all_set Fact.pred_get Fact.pred_set Fact.t_get Fact.t_set Literal.length_enc Literal.ok_enc Literal.all_get Literal.all_set Literal.neg_get Literal.neg_set Literal.atom_get Literal.atom_set Literal.atom_pred_get Literal.atom_pred_set Literal.atom_args_get Literal.atom_args_set Engine.length_enc Engine.ok_enc Engine.all_get Engine.all_set Engine.prog_get Engine.prog_set Engine.st_get Engine.st_set SrcCertm.length_enc SrcCertm.ok_enc SrcCertm.all_get SrcCertm.all_set SrcCertm.b_get SrcCertm.b_set SrcCertm.at__get SrcCertm.at__set GNode.length_enc GNode.ok_enc GNode.all_get GNode.all_set GNode.rule_get GNode.rule_set GNode.pred_get GNode.pred_set GNode.vals_get GNode.vals_set GNode.refs_get GNode.refs_set Term.length_enc Term.ok_enc Term.all_get Term.all_set Term.var_get Term.var_set Term.n_get Term.n_set Env.length_enc Env.ok_enc Env.all_get Env.all_set Env.val_get Env.val_set Env.set_get Env.set_set
attribute [local go_sem] size_put size_ext blk_put free_put blk_alloc free_alloc blk_drew free_drew blk_ext free_ext lookOr_some putOr_some segAt_some cellAt_some storeIn_some put_put put_alloc_new length_arr ok_arr_u8 ok_arr_u32 ok_arr_u64 ok_arr_i64 ok_arr_sl cellsV_agg cellsV_int cellsV_bool cellsV_string cellsV_pointer cellsV_slice cellsV_sl ok_int ok_bool ok_string ok_pointer ok_slice ok_sl toList_arr seg_arr set_arr nth_splice nth_splice0 seg_splice seg_splice0 splice_splice splice_splice0 length_splice_if
attribute [local go_sem ↓] execOp_box
attribute [local go_sem] box_run nth_arr_u8 put_arr_u8 blk_drewN free_drewN put_drewN blk_raw free_raw
/-- A tuple of the first c values. -/
def mkT (f : Nat → Int) (c : Nat) : Tup := Vector.ofFn fun i => if i.val < c then f i.val else 0
theorem tg_mkT (f : Nat → Int) (c i : Nat) (hi : i < 4) : tg (mkT f c) i = if i < c then f i else 0 := by
  unfold tg mkT
  rw [List.getD_eq_getElem?_getD, List.getElem?_eq_getElem (by simp; omega)]; simp
theorem mkT_zero (f : Nat → Int) : mkT f 0 = Vector.replicate 4 0 := by
  apply Vector.ext
  intro i hi
  simp [mkT]
theorem mkT_put (f : Nat → Int) {c : Nat} (hc : c < 4) {v : Int} (hv : v = f c) : splice (arr i64v (mkT f c)) c [.int .i64 v] = arr i64v (mkT f (c + 1)) := by
  rw [put_arr_i64 _ _ hc]
  congr 1
  apply Vector.ext
  intro i hi
  rw [Vector.getElem_set]
  by_cases h : c = i
  · subst h; simp [mkT, hv]
  · rw [if_neg h]
    by_cases h2 : i < c
    · simp [mkT, h2, Nat.lt_succ_of_lt h2]
    · have h3 : ¬ i < c + 1 := by omega
      simp [mkT, h2, h3]
/-- The counts after a change. -/
def useS (s : InsS) (ch : Change) : Nat → InsS
  | 0 => s
  | c + 1 => if ch.del then relS (useS s ch c) (tg ch.t c).toNat else retS (useS s ch c) (tg ch.t c).toNat
theorem useS_p (s : InsS) (ch : Change) : ∀ c, (useS s ch c).p = s.p ∧ (useS s ch c).N = s.N ∧ (useS s ch c).R = s.R
  | 0 => ⟨rfl, rfl, rfl⟩
  | c + 1 => by
    have ih := useS_p s ch c
    unfold useS
    split <;> exact ih
theorem UB.use {M : Int} {s : InsS} (h : UB M s) {ch : Change} (ht : TOk ch.t) : ∀ c : Nat, c ≤ 4 → UB (M + (c : Int)) (useS s ch c)
  | 0, _ => by
    show UB (M + 0) s
    rw [Int.add_zero]; exact h
  | c + 1, hc => by
    have ih := UB.use h ht c (by omega)
    have hy : (tg ch.t c).toNat < 256 := by have := ht c (by omega); omega
    have e : M + ((c + 1 : Nat) : Int) = M + (c : Int) + 1 := by omega
    rw [e]
    unfold useS
    split
    · exact ih.rel hy
    · exact ih.ret hy
/-- All columns of a change. -/
def setS (s : InsS) (ch : Change) : InsS := useS s ch (pI s.p ch.pred.toNat).arity.toNat
def ssI (B : Nat) (O1 : Own) (V1 : World) (g bi b3 : Nat) (s : InsS) (ch : Change) (ar : Nat) (X : List Value) (f : Nat → Value) (V : World) : Prop := f 0 = .pointer (some ⟨bi, 0, none⟩) ∧ f 3 = .pointer (some ⟨b3, 0, none⟩) ∧ ∃ c : Nat, c ≤ ar ∧ f 4 = .int .i64 (c : Nat) ∧ Hid (∃ O', Fr (isI g) O1 V1 O' V ∧ InsAt B O' V g bi (useS s ch c) ∧ blk V b3 = some X ∧ O' b3 = .no)
set_option maxRecDepth 100000 in
theorem frame33s (f : Nat → Value) : frameN 33 f = #[f 0, f 1, f 2, f 3, f 4, f 5, f 6, f 7, f 8, f 9, f 10, f 11, f 12, f 13, f 14, f 15, f 16, f 17, f 18, f 19, f 20, f 21, f 22, f 23, f 24, f 25, f 26, f 27, f 28, f 29, f 30, f 31, f 32] := by kernel_rfl
set_option maxRecDepth 40000 in
set_option maxHeartbeats 4000000 in
theorem settleI_any {B : Nat} {O : Own} {W : World} {g bi : Nat} {s : InsS} {M : Int} (h : InsAt B O W g bi s) (hok : PPok s.p) (hU : UB M s) (hM : M ≤ 900000000000) (ch : Change) (q : Nat) (hq : ch.pred = (q : Int)) (hqn : q < s.p.preds.length) (ht : TOk ch.t) : Calls Tryz.prog 135 #[.pointer (some ⟨bi, 0, none⟩), .agg ch.enc.toArray] W fun e V => e = .returned (.tuple #[]) ∧ InsOut B O W g bi (setS s ch) V := by
  obtain ⟨Q, hQ⟩ : ∃ Q : Ending → World → Prop, Q = fun e V => e = .returned (.tuple #[]) ∧ InsOut B O W g bi (setS s ch) V := ⟨_, rfl⟩
  rw [← hQ]
  have HQ := hid_of hQ
  have HH := hid_of h
  have HU := hid_of hU
  have HT := hid_of ht
  have hset : setS s ch = useS s ch (pI s.p q).arity.toNat := by unfold setS; rw [hq]; rfl
  obtain ⟨ar, har⟩ : ∃ ar : Nat, (pI s.p q).arity = (ar : Int) := ⟨(pI s.p q).arity.toNat, by have := (hok.ar _ (List.mem_of_getElem? (pI_at hqn))).1; omega⟩
  have har4 : ar ≤ 4 := by have := (hok.ar _ (List.mem_of_getElem? (pI_at hqn))).2; omega
  rw [har, Int.toNat_natCast] at hset
  have HSET := hid_of hset
  have HAR := hid_of har
  have h64 := hok.nD
  have x0 : nth ch.enc 0 = some (.bool ch.del) := Change.del_get ch
  have x1 : nth ch.enc 1 = some (.int .i64 (q : Int)) := by rw [← hq]; exact Change.pred_get ch
  have x2 : ∀ c, c < 4 → nth ch.enc (2 + c) = some (.int .i64 (tg ch.t c)) := fun c hc => by
    have := nth_in (j := c) (Change.t_get ch) (nth_t ch.t c hc) (by omega)
    exact this
  obtain ⟨X, hX⟩ : ∃ X, X = ch.enc := ⟨_, rfl⟩
  have xl : X.length = 6 := by rw [hX]; exact Change.length_enc ch
  rw [← hX] at x0 x1 x2 ⊢
  have xl0 : 0 < X.length := by omega
  have xl1 : 1 < X.length := by omega
  have q0 : (0 : Int) ≤ (q : Int) := by omega
  have q1 : (q : Int) < (s.p.preds.length : Int) := by omega
  have q2 : ((q : Int)).toNat = q := by omega
  obtain ⟨dl, hdl⟩ : ∃ dl, dl = ch.del := ⟨_, rfl⟩
  rw [← hdl] at x0
  have HX2 := hid_of x2
  have HXL := hid_of xl
  have HDL := hid_of hdl
  clear hQ hX hq hset har hok hU h hdl xl x2 ht
  go_enter Tryz.func135, Tryz.ntmps135
  go_upto_region 2 with fail
  refine wp_world (fun V => W.Extends V ∧ blk V W.heap.size = some X) ⟨extends_alloc (ext_Ext (Ext.refl _)) _, by rw [blk_alloc, if_pos rfl]⟩ ?_
  rintro V1 ⟨hx1, hb3⟩
  obtain ⟨b3, eb3⟩ : ∃ b3, b3 = W.heap.size := ⟨_, rfl⟩
  rw [← eb3] at hb3 ⊢
  obtain ⟨O1, hO1⟩ : ∃ O1, O1 = lab O W.heap.size .no := ⟨_, rfl⟩
  have hI1 : InsAt B O1 V1 g bi s := by rw [hO1]; exact HH.out.new hx1
  have HF1 : Hid (Fr (isI g) O W O1 V1) := by show Fr _ _ _ _ _; rw [hO1]; exact Fr.grow hx1
  have HB3 : Hid (O1 b3 = .no) := by show _ = _; rw [hO1, eb3]; exact lab_ge (Nat.le_refl _)
  have HI0 : Hid (∃ O', Fr (isI g) O1 V1 O' V1 ∧ InsAt B O' V1 g bi (useS s ch 0) ∧ blk V1 b3 = some X ∧ O' b3 = .no) := ⟨O1, Fr.refl _ _ _, hI1, hb3, HB3.out⟩
  clear hx1 eb3 hO1 hI1 hb3
  refine wp_loop_f 33 (ssI B O1 V1 g bi b3 s ch ar X) (fun f _ => ar - (intOf (f 4)).toNat) rfl ⟨rfl, rfl, 0, by omega, rfl, HI0⟩ ?_
  clear HI0
  intro F V hrel
  obtain ⟨f0, f3, c, hc, f4, HI⟩ := hrel
  have H4 := hid_of f4
  rw [frame33s, f0, f3, f4]
  clear f0 f3 f4
  obtain ⟨O2, hF2, hI2, hb3, hb3o⟩ := HI.out
  obtain ⟨CI, bst, be, A, hm⟩ := hI2
  obtain ⟨p0, p1, p2⟩ := useS_p s ch c
  have hpc := hm.progL.c
  rw [p0] at hpc
  obtain ⟨Ce, pa, pc, da, dc, ra, rc, e1, e2, e3, e4, e5, e6, e7, e8, e9⟩ := hpc.cells
  have z1 : 1 < Ce.length := by omega
  obtain ⟨bD, CD, d1, d2, d3, d4, -, -, d7⟩ := pred_at e8 (pI_at hqn)
  subst d1
  rw [HAR.out] at d4
  have d8 : q * 3 < CD.length := by omega
  have HSX : Hid (∀ V', V.Extends V' → blk V' bi = some Ce ∧ blk V' b3 = some X ∧ blk V' bD = some CD) := fun V' hx => ⟨(hx.blk (blk_lt e1)).trans e1, (hx.blk (blk_lt hb3)).trans hb3, (hx.blk (blk_lt d2)).trans d2⟩
  have hdr : Fr (isI g) O2 V O2 V.drew := (Fr.refl _ _ _).drew
  by_cases hin : c < ar
  · have hin' : (c : Int) < (ar : Int) := by omega
    have hx2 := HX2.out c (by omega)
    have htk := HT.out c (by omega)
    obtain ⟨tv, htv⟩ : ∃ tv : Nat, tg ch.t c = (tv : Int) := ⟨(tg ch.t c).toNat, by omega⟩
    rw [htv] at hx2
    have htv4 : tv < 256 := by omega
    have hub := HU.out.use HT.out c (by omega)
    have hrt := fun V' (hx : V.Extends V') => retain_any (InsAt.ext ⟨CI, bst, be, A, hm⟩ hx) hub (by omega) tv htv4
    have hrl := fun V' (hx : V.Extends V') => release_any (InsAt.ext ⟨CI, bst, be, A, hm⟩ hx) hub (by omega) tv htv4
    have hnx : useS s ch (c + 1) = if dl then relS (useS s ch c) tv else retS (useS s ch c) tv := by
      show (if ch.del then _ else _) = _
      rw [htv, HDL.out]; rfl
    have c0 : (0 : Int) ≤ (c : Int) := by omega
    have c1 : (c : Int) < 4 := by omega
    have c2 : ((c : Int)).toNat = c := by omega
    have xlc : 2 + c < X.length := by have := HXL.out; omega
    have hb3d : blk V.drew b3 = some X := hb3
    have HF2 := hid_of hF2
    have HNX := hid_of hnx
    have HFIN : Hid (∀ V' sn, sn = useS s ch (c + 1) → InsOut B O2 V.drew g bi sn V' → ∃ O', Fr (isI g) O1 V1 O' V' ∧ InsAt B O' V' g bi (useS s ch (c + 1)) ∧ blk V' b3 = some X ∧ O' b3 = .no) := by
      rintro V' sn rfl ⟨O', h1, h2⟩
      exact ⟨O', (HF2.out.drew).trans h1, h2, h1.blk (W := V.drew) hb3 (by rw [hb3o]; exact isI_no g), (h1.keep b3 (blk_lt (w := V.drew) hb3)).trans hb3o⟩
    clear HI hF2 hm hpc e5 e6 e7 e8 e9 hnx hub htk d7 hdr hb3o p0 p1 p2
    go_upto_region 2 with fail
    refine wp_region_held_drew (S := fun W' => blk W' bi = some Ce ∧ blk W' b3 = some X ∧ blk W' bD = some CD) (by kernel_rfl) (HSX.out _ (extd V)) (fun hHeld => ?_)
    refine wpAnyH_take (i := 0) (oi := ⟨_, _, _, _, _, _⟩) (v := ?_) rfl (by kernel_rfl) (by kernel_rfl) (by kernel_rfl) (fun _ _ _ h => h) (Or.inl ⟨by rfl, ?_⟩) (by assumption) ?_
    rotate_left 1
    · intro W' hSw
      obtain ⟨hS1, hS2, hS3⟩ := hSw
      go_simp
      try with_reducible rfl
    try simp only [Act.put, List.setIfInBounds_toArray, List.set_cons_zero, List.set_cons_succ]
    refine wpAnyH_take (i := 1) (oi := ⟨_, _, _, _, _, _⟩) (v := ?_) rfl (by kernel_rfl) (by kernel_rfl) (by kernel_rfl) (fun _ _ _ h => h) (Or.inl ⟨by rfl, ?_⟩) (by assumption) ?_
    rotate_left 1
    · intro W' hSw
      obtain ⟨hS1, hS2, hS3⟩ := hSw
      go_simp
      try with_reducible rfl
    try simp only [Act.put, List.setIfInBounds_toArray, List.set_cons_zero, List.set_cons_succ]
    refine wpAnyH_take (i := 2) (oi := ⟨_, _, _, _, _, _⟩) (v := ?_) rfl (by kernel_rfl) (by kernel_rfl) (by kernel_rfl) (fun _ _ _ h => h) (Or.inl ⟨by rfl, ?_⟩) (by assumption) ?_
    rotate_left 1
    · intro W' hSw
      obtain ⟨hS1, hS2, hS3⟩ := hSw
      go_simp
      try with_reducible rfl
    try simp only [Act.put, List.setIfInBounds_toArray, List.set_cons_zero, List.set_cons_succ]
    refine wpAnyH_take (i := 3) (oi := ⟨_, _, _, _, _, _⟩) (v := ?_) rfl (by kernel_rfl) (by kernel_rfl) (by kernel_rfl) (fun _ _ _ h => h) (Or.inl ⟨by rfl, ?_⟩) (by assumption) ?_
    rotate_left 1
    · intro W' hSw
      obtain ⟨hS1, hS2, hS3⟩ := hSw
      go_simp
      try with_reducible rfl
    try simp only [Act.put, List.setIfInBounds_toArray, List.set_cons_zero, List.set_cons_succ]
    refine wpAnyH_take (i := 4) (oi := ⟨_, _, _, _, _, _⟩) (v := ?_) rfl (by kernel_rfl) (by kernel_rfl) (by kernel_rfl) (fun _ _ _ h => h) (Or.inl ⟨by rfl, ?_⟩) (by assumption) ?_
    rotate_left 1
    · intro W' hSw
      obtain ⟨hS1, hS2, hS3⟩ := hSw
      go_simp
      try with_reducible rfl
    try simp only [Act.put, List.setIfInBounds_toArray, List.set_cons_zero, List.set_cons_succ]
    refine wpAnyH_take (i := 5) (oi := ⟨_, _, _, _, _, _⟩) (v := ?_) rfl (by kernel_rfl) (by kernel_rfl) (by kernel_rfl) (fun _ _ _ h => h) (Or.inl ⟨by rfl, ?_⟩) (by assumption) ?_
    rotate_left 1
    · intro W' hSw
      obtain ⟨hS1, hS2, hS3⟩ := hSw
      go_simp
      try with_reducible rfl
    try simp only [Act.put, List.setIfInBounds_toArray, List.set_cons_zero, List.set_cons_succ]
    refine wpAnyH_take (i := 6) (oi := ⟨_, _, _, _, _, _⟩) (v := ?_) rfl (by kernel_rfl) (by kernel_rfl) (by kernel_rfl) (fun _ _ _ h => h) (Or.inl ⟨by rfl, ?_⟩) (by assumption) ?_
    rotate_left 1
    · intro W' hSw
      obtain ⟨hS1, hS2, hS3⟩ := hSw
      go_simp
      try with_reducible rfl
    try simp only [Act.put, List.setIfInBounds_toArray, List.set_cons_zero, List.set_cons_succ]
    refine wpAnyH_take (i := 7) (oi := ⟨_, _, _, _, _, _⟩) (v := ?_) rfl (by kernel_rfl) (by kernel_rfl) (by kernel_rfl) (fun _ _ _ h => h) (Or.inl ⟨by rfl, ?_⟩) (by assumption) ?_
    rotate_left 1
    · intro W' hSw
      obtain ⟨hS1, hS2, hS3⟩ := hSw
      go_simp
      try with_reducible rfl
    try simp only [Act.put, List.setIfInBounds_toArray, List.set_cons_zero, List.set_cons_succ]
    refine wpAnyH_take (i := 8) (oi := ⟨_, _, _, _, _, _⟩) (v := ?_) rfl (by kernel_rfl) (by kernel_rfl) (by kernel_rfl) (fun _ _ _ h => h) (Or.inl ⟨by rfl, ?_⟩) (by assumption) ?_
    rotate_left 1
    · intro W' hSw
      obtain ⟨hS1, hS2, hS3⟩ := hSw
      go_simp
      try with_reducible rfl
    try simp only [Act.put, List.setIfInBounds_toArray, List.set_cons_zero, List.set_cons_succ]
    refine wpAnyH_take (i := 9) (oi := ⟨_, _, _, _, _, _⟩) (v := ?_) rfl (by kernel_rfl) (by kernel_rfl) (by kernel_rfl) (fun _ _ _ h => h) (Or.inl ⟨by rfl, ?_⟩) (by assumption) ?_
    rotate_left 1
    · intro W' hSw
      obtain ⟨hS1, hS2, hS3⟩ := hSw
      go_simp
      try with_reducible rfl
    try simp only [Act.put, List.setIfInBounds_toArray, List.set_cons_zero, List.set_cons_succ]
    refine wpAnyH_take (i := 10) (oi := ⟨_, _, _, _, _, _⟩) (v := ?_) rfl (by kernel_rfl) (by kernel_rfl) (by kernel_rfl) (fun _ _ _ h => h) (Or.inl ⟨by rfl, ?_⟩) (by assumption) ?_
    rotate_left 1
    · intro W' hSw
      obtain ⟨hS1, hS2, hS3⟩ := hSw
      go_simp
      try with_reducible rfl
    try simp only [Act.put, List.setIfInBounds_toArray, List.set_cons_zero, List.set_cons_succ]
    refine wpAnyH_take (i := 11) (oi := ⟨_, _, _, _, _, _⟩) (v := ?_) rfl (by kernel_rfl) (by kernel_rfl) (by kernel_rfl) (fun _ _ _ h => h) (Or.inl ⟨by rfl, ?_⟩) (by assumption) ?_
    rotate_left 1
    · intro W' hSw
      obtain ⟨hS1, hS2, hS3⟩ := hSw
      go_simp
      try with_reducible rfl
    try simp only [Act.put, List.setIfInBounds_toArray, List.set_cons_zero, List.set_cons_succ]
    refine wpAnyH_done (by kernel_rfl) ?_ _
    cases dl with
    | true =>
      have hcal := hrl V.drew (extd V)
      have HNX2 : Hid (relS (useS s ch c) tv = useS s ch (c + 1)) := HNX.out.symm
      clear hrl hrt
      go_wp2_with fail
      refine hcal.mono ?_
      rintro en V3 ⟨rfl, hout⟩
      have HI' := hid_of (HFIN.out V3 _ HNX2.out hout)
      clear hcal hout HFIN
      dsimp only
      go_wp2_with fail
      refine ⟨rfl, rfl, ⟨rfl, rfl, c + 1, by omega, ?_, HI'⟩, ?_⟩
      · show Value.int .i64 _ = _
        go_num
      · show ar - (intOf (Value.int .i64 _)).toNat < ar - (intOf (F 4)).toNat
        rw [H4.out]
        simp [intOf]; omega
    | false =>
      have hcal := hrt V.drew (extd V)
      have HNX2 : Hid (retS (useS s ch c) tv = useS s ch (c + 1)) := HNX.out.symm
      clear hrl hrt
      go_wp2_with fail
      refine hcal.mono ?_
      rintro en V3 ⟨rfl, hout⟩
      have HI' := hid_of (HFIN.out V3 _ HNX2.out hout)
      clear hcal hout HFIN
      dsimp only
      go_wp2_with fail
      refine ⟨rfl, rfl, ⟨rfl, rfl, c + 1, by omega, ?_, HI'⟩, ?_⟩
      · show Value.int .i64 _ = _
        go_num
      · show ar - (intOf (Value.int .i64 _)).toNat < ar - (intOf (F 4)).toNat
        rw [H4.out]
        simp [intOf]; omega
  · have hin' : ¬ (c : Int) < (ar : Int) := by omega
    obtain rfl : c = ar := by omega
    have HP : Hid (Q (.returned (.tuple #[])) V.drew) := by
      show Q _ _
      rw [HQ.out, HSET.out]
      exact ⟨rfl, O2, (HF1.out.trans hF2).drew, InsAt.ext ⟨CI, bst, be, A, hm⟩ (extd V)⟩
    clear HI hF2 hm hpc e5 e6 e7 e8 e9 d7 hdr hb3o p0 p1 p2
    go_upto_region 2 with fail
    refine wp_region_held_drew (S := fun W' => blk W' bi = some Ce ∧ blk W' b3 = some X ∧ blk W' bD = some CD) (by kernel_rfl) (HSX.out _ (extd V)) (fun hHeld => ?_)
    refine wpAnyH_take (i := 0) (oi := ⟨_, _, _, _, _, _⟩) (v := ?_) rfl (by kernel_rfl) (by kernel_rfl) (by kernel_rfl) (fun _ _ _ h => h) (Or.inl ⟨by rfl, ?_⟩) (by assumption) ?_
    rotate_left 1
    · intro W' hSw
      obtain ⟨hS1, hS2, hS3⟩ := hSw
      go_simp
      try with_reducible rfl
    try simp only [Act.put, List.setIfInBounds_toArray, List.set_cons_zero, List.set_cons_succ]
    refine wpAnyH_take (i := 1) (oi := ⟨_, _, _, _, _, _⟩) (v := ?_) rfl (by kernel_rfl) (by kernel_rfl) (by kernel_rfl) (fun _ _ _ h => h) (Or.inl ⟨by rfl, ?_⟩) (by assumption) ?_
    rotate_left 1
    · intro W' hSw
      obtain ⟨hS1, hS2, hS3⟩ := hSw
      go_simp
      try with_reducible rfl
    try simp only [Act.put, List.setIfInBounds_toArray, List.set_cons_zero, List.set_cons_succ]
    refine wpAnyH_take (i := 2) (oi := ⟨_, _, _, _, _, _⟩) (v := ?_) rfl (by kernel_rfl) (by kernel_rfl) (by kernel_rfl) (fun _ _ _ h => h) (Or.inl ⟨by rfl, ?_⟩) (by assumption) ?_
    rotate_left 1
    · intro W' hSw
      obtain ⟨hS1, hS2, hS3⟩ := hSw
      go_simp
      try with_reducible rfl
    try simp only [Act.put, List.setIfInBounds_toArray, List.set_cons_zero, List.set_cons_succ]
    refine wpAnyH_take (i := 3) (oi := ⟨_, _, _, _, _, _⟩) (v := ?_) rfl (by kernel_rfl) (by kernel_rfl) (by kernel_rfl) (fun _ _ _ h => h) (Or.inl ⟨by rfl, ?_⟩) (by assumption) ?_
    rotate_left 1
    · intro W' hSw
      obtain ⟨hS1, hS2, hS3⟩ := hSw
      go_simp
      try with_reducible rfl
    try simp only [Act.put, List.setIfInBounds_toArray, List.set_cons_zero, List.set_cons_succ]
    refine wpAnyH_take (i := 4) (oi := ⟨_, _, _, _, _, _⟩) (v := ?_) rfl (by kernel_rfl) (by kernel_rfl) (by kernel_rfl) (fun _ _ _ h => h) (Or.inl ⟨by rfl, ?_⟩) (by assumption) ?_
    rotate_left 1
    · intro W' hSw
      obtain ⟨hS1, hS2, hS3⟩ := hSw
      go_simp
      try with_reducible rfl
    try simp only [Act.put, List.setIfInBounds_toArray, List.set_cons_zero, List.set_cons_succ]
    refine wpAnyH_take (i := 5) (oi := ⟨_, _, _, _, _, _⟩) (v := ?_) rfl (by kernel_rfl) (by kernel_rfl) (by kernel_rfl) (fun _ _ _ h => h) (Or.inl ⟨by rfl, ?_⟩) (by assumption) ?_
    rotate_left 1
    · intro W' hSw
      obtain ⟨hS1, hS2, hS3⟩ := hSw
      go_simp
      try with_reducible rfl
    try simp only [Act.put, List.setIfInBounds_toArray, List.set_cons_zero, List.set_cons_succ]
    refine wpAnyH_take (i := 6) (oi := ⟨_, _, _, _, _, _⟩) (v := ?_) rfl (by kernel_rfl) (by kernel_rfl) (by kernel_rfl) (fun _ _ _ h => h) (Or.inl ⟨by rfl, ?_⟩) (by assumption) ?_
    rotate_left 1
    · intro W' hSw
      obtain ⟨hS1, hS2, hS3⟩ := hSw
      go_simp
      try with_reducible rfl
    try simp only [Act.put, List.setIfInBounds_toArray, List.set_cons_zero, List.set_cons_succ]
    refine wpAnyH_take (i := 7) (oi := ⟨_, _, _, _, _, _⟩) (v := ?_) rfl (by kernel_rfl) (by kernel_rfl) (by kernel_rfl) (fun _ _ _ h => h) (Or.inl ⟨by rfl, ?_⟩) (by assumption) ?_
    rotate_left 1
    · intro W' hSw
      obtain ⟨hS1, hS2, hS3⟩ := hSw
      go_simp
      try with_reducible rfl
    try simp only [Act.put, List.setIfInBounds_toArray, List.set_cons_zero, List.set_cons_succ]
    refine wpAnyH_take (i := 8) (oi := ⟨_, _, _, _, _, _⟩) (v := ?_) rfl (by kernel_rfl) (by kernel_rfl) (by kernel_rfl) (fun _ _ _ h => h) (Or.inl ⟨by rfl, ?_⟩) (by assumption) ?_
    rotate_left 1
    · intro W' hSw
      obtain ⟨hS1, hS2, hS3⟩ := hSw
      go_simp
      try with_reducible rfl
    try simp only [Act.put, List.setIfInBounds_toArray, List.set_cons_zero, List.set_cons_succ]
    refine wpAnyH_take (i := 9) (oi := ⟨_, _, _, _, _, _⟩) (v := ?_) rfl (by kernel_rfl) (by kernel_rfl) (by kernel_rfl) (fun _ _ _ h => h) (Or.inl ⟨by rfl, ?_⟩) (by assumption) ?_
    rotate_left 1
    · intro W' hSw
      obtain ⟨hS1, hS2, hS3⟩ := hSw
      go_simp
      try with_reducible rfl
    try simp only [Act.put, List.setIfInBounds_toArray, List.set_cons_zero, List.set_cons_succ]
    refine wpAnyH_take (i := 10) (oi := ⟨_, _, _, _, _, _⟩) (v := ?_) rfl (by kernel_rfl) (by kernel_rfl) (by kernel_rfl) (fun _ _ _ h => h) (Or.inl ⟨by rfl, ?_⟩) (by assumption) ?_
    rotate_left 1
    · intro W' hSw
      obtain ⟨hS1, hS2, hS3⟩ := hSw
      go_simp
      try with_reducible rfl
    try simp only [Act.put, List.setIfInBounds_toArray, List.set_cons_zero, List.set_cons_succ]
    refine wpAnyH_take (i := 11) (oi := ⟨_, _, _, _, _, _⟩) (v := ?_) rfl (by kernel_rfl) (by kernel_rfl) (by kernel_rfl) (fun _ _ _ h => h) (Or.inl ⟨by rfl, ?_⟩) (by assumption) ?_
    rotate_left 1
    · intro W' hSw
      obtain ⟨hS1, hS2, hS3⟩ := hSw
      go_simp
      try with_reducible rfl
    try simp only [Act.put, List.setIfInBounds_toArray, List.set_cons_zero, List.set_cons_succ]
    refine wpAnyH_done (by kernel_rfl) ?_ _
    go_wp2_with fail
    go_end0
    exact HP.out
end Go.Proofs.Qxb6500787aGreat
