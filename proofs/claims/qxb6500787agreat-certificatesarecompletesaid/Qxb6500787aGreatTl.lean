
import Derived.Test.Qxb6500787aGreatTk
import Derived.StillTailTactics
import Derived.Deep.QuietTactic
import Derived.BigQuiet
import Derived.Deep.RegionHeld
import Derived.Deep.CutRange
import Derived.Laws.ResultCell
import Derived.Laws.Rows
import Derived.DeepKeys
import Derived.DataBytes
import Derived.Laws.StructEq
import Derived.Laws.AppendOwn
import Derived.Laws.MakeOwn
import Derived.Lib.AppendStr
set_option linter.unusedSimpArgs false
set_option linter.unusedVariables false
namespace Go.Proofs.Qxb6500787aGreat
open Go.RowKit Go.Blk
attribute [local go_sem ↓] execOp_load execOp_store execOp_alloc
attribute [local go_sem] Tryz.ld26 Tryz.st26 Tryz.ld27 Tryz.st27 Tryz.ld28 Tryz.st28 Tryz.ld3 Tryz.st3 Tryz.ld29 Tryz.st29 Tryz.ld44 Tryz.st44 Tryz.ld4 Tryz.st4 Tryz.ld50 Tryz.st50 Tryz.ld32 Tryz.st32 Tryz.ld49 Tryz.st49 Tryz.ld68 Tryz.st68 Tryz.ld9 Tryz.st9 Tryz.ld40 Tryz.st40 Tryz.ld138 Tryz.st138 Tryz.ld139 Tryz.st139 Tryz.ld146 Tryz.st146 Tryz.ld183 Tryz.st183 Tryz.ld184 Tryz.st184 Tryz.ld192 Tryz.st192 Tryz.ld195 Tryz.st195 Tryz.ld217 Tryz.st217 Tryz.ld159 Tryz.st159 Tryz.ld142 Tryz.st142 Tryz.ld2 Tryz.st2 Tryz.ld5 Tryz.st5 Tryz.ld12 Tryz.st12 Tryz.ld21 Tryz.st21 Tryz.ld22 Tryz.st22 Tryz.ld24 Tryz.st24 Tryz.ld58 Tryz.st58 Tryz.ld97 Tryz.st97 Tryz.ld101 Tryz.st101 Tryz.ld116 Tryz.st116 Tryz.ld121 Tryz.st121 Tryz.ld135 Tryz.st135 Tryz.ld136 Tryz.st136 Tryz.ld143 Tryz.st143 Tryz.ld148 Tryz.st148 Tryz.ld154 Tryz.st154 Tryz.ld173 Tryz.st173 Tryz.ld187 Tryz.st187 Tryz.ld222 Tryz.st222 Tryz.ld241 Tryz.st241 Tryz.ld248 Tryz.st248 Tryz.ld268 Tryz.st268 Tryz.ld272 Tryz.st272 Tryz.ld153 Tryz.st153 Tryz.ld255 Tryz.st255 Tryz.ld256 Tryz.st256 Tryz.ld129 Tryz.st129 Tryz.ld152 Tryz.st152 Tryz.ld31 Tryz.st31 Tryz.ld46 Tryz.st46 Tryz.ld52 Tryz.st52 Tryz.ld54 Tryz.st54 Tryz.ld60 Tryz.st60 Tryz.ld70 Tryz.st70 Tryz.ld74 Tryz.st74 Tryz.ld93 Tryz.st93 Tryz.ld141 Tryz.st141 Tryz.ld151 Tryz.st151 Tryz.ld170 Tryz.st170 Tryz.ld186 Tryz.st186 Tryz.ld189 Tryz.st189 Tryz.ld194 Tryz.st194 Tryz.ld197 Tryz.st197 Tryz.ld219 Tryz.st219 Tryz.ld224 Tryz.st224 Tryz.ld230 Tryz.st230 Tryz.ld235 Tryz.st235 Tryz.ld243 Tryz.st243 Tryz.ld247 Tryz.st247 Tryz.ld252 Tryz.st252 Tryz.ld258 Tryz.st258 Tryz.al153 Tryz.al255 Tryz.al256 Tryz.al129 Tryz.al152 Tryz.al31 Tryz.al46 Tryz.al52 Tryz.al54 Tryz.al60 Tryz.al70 Tryz.al74 Tryz.al93 Tryz.al141 Tryz.al151 Tryz.al170 Tryz.al186 Tryz.al189 Tryz.al194 Tryz.al197 Tryz.al219 Tryz.al224 Tryz.al230 Tryz.al235 Tryz.al243 Tryz.al247 Tryz.al252 Tryz.al258
attribute [local go_sem] Request.length_enc Request.ok_enc Request.all_get Request.all_set Request.kind_get Request.kind_set Request.blob_get Request.blob_set Request.items_get Request.items_set Request.pred_get Request.pred_set Request.slots_get Request.slots_set Trace.length_enc Trace.ok_enc Trace.all_get Trace.all_set Trace.op_get Trace.op_set Trace.calls_get Trace.calls_set Item.length_enc Item.ok_enc Item.all_get Item.all_set Item.del_get Item.del_set Item.pred_get Item.pred_set Item.args_get Item.args_set Reply.length_enc Reply.ok_enc Reply.all_get Reply.all_set Reply.code_get Reply.code_set Reply.kind_get Reply.kind_set Reply.index_get Reply.index_set Reply.yes_get Reply.yes_set Reply.preds_get Reply.preds_set Reply.rules_get Reply.rules_set Reply.arity_get Reply.arity_set Reply.rows_get Reply.rows_set Reply.fact_get Reply.fact_set Reply.fact_del_get Reply.fact_del_set Reply.fact_pred_get Reply.fact_pred_set Reply.fact_args_get Reply.fact_args_set GEntry.length_enc GEntry.ok_enc GEntry.all_get GEntry.all_set GEntry.seq_get GEntry.seq_set GEntry.kind_get GEntry.kind_set GEntry.code_get GEntry.code_set GOp.length_enc GOp.ok_enc GOp.all_get GOp.all_set GOp.kind_get GOp.kind_set GOp.raw_get GOp.raw_set Reader.length_enc Reader.ok_enc Reader.all_get Reader.all_set Reader.buf_get Reader.buf_set Reader.at__get Reader.at__set Slot.length_enc Slot.ok_enc Slot.all_get Slot.all_set Slot.bound_get Slot.bound_set Slot.name_get Slot.name_set Session.length_enc Session.ok_enc Session.all_get Session.all_set Session.svc_get Session.svc_set Session.buf_get Session.buf_set Session.closed_get Session.closed_set GProgram.length_enc GProgram.ok_enc GProgram.all_get GProgram.all_set GProgram.pool_get GProgram.pool_set GProgram.preds_get GProgram.preds_set GProgram.rules_get GProgram.rules_set GProgram.strata_get GProgram.strata_set PredInfo.length_enc PredInfo.ok_enc PredInfo.all_get PredInfo.all_set PredInfo.arity_get PredInfo.arity_set PredInfo.base_get PredInfo.base_set PredInfo.stratum_get PredInfo.stratum_set Change.length_enc Change.ok_enc Change.all_get Change.all_set Change.del_get Change.del_set Change.pred_get Change.pred_set Change.t_get Change.t_set Store.length_enc Store.ok_enc Store.all_get Store.all_set Store.names_get Store.names_set Store.arity_get Store.arity_set Store.rows_get Store.rows_set Src.length_enc Src.ok_enc Src.all_get Src.all_set Src.b_get Src.b_set Src.at__get Src.at__set Atom.length_enc Atom.ok_enc Atom.all_get Atom.all_set Atom.pred_get Atom.pred_set Atom.args_get Atom.args_set GRule.length_enc GRule.ok_enc GRule.all_get GRule.all_set GRule.head_get GRule.head_set GRule.body_get GRule.body_set GRule.head_pred_get GRule.head_pred_set GRule.head_args_get GRule.head_args_set Cert.length_enc Cert.ok_enc Cert.all_get Cert.all_set Cert.names_get Cert.names_set Cert.nodes_get Cert.nodes_set Fact.length_enc Fact.ok_enc Fact.all_get Fact.all_set Fact.pred_get Fact.pred_set Fact.t_get Fact.t_set Literal.length_enc Literal.ok_enc Literal.all_get Literal.all_set Literal.neg_get Literal.neg_set Literal.atom_get Literal.atom_set Literal.atom_pred_get Literal.atom_pred_set Literal.atom_args_get Literal.atom_args_set Engine.length_enc Engine.ok_enc Engine.all_get Engine.all_set Engine.prog_get Engine.prog_set Engine.st_get Engine.st_set SrcCertm.length_enc SrcCertm.ok_enc SrcCertm.all_get SrcCertm.all_set SrcCertm.b_get SrcCertm.b_set SrcCertm.at__get SrcCertm.at__set GNode.length_enc GNode.ok_enc GNode.all_get GNode.all_set GNode.rule_get GNode.rule_set GNode.pred_get GNode.pred_set GNode.vals_get GNode.vals_set GNode.refs_get GNode.refs_set Term.length_enc Term.ok_enc Term.all_get Term.all_set Term.var_get Term.var_set Term.n_get Term.n_set Env.length_enc Env.ok_enc Env.all_get Env.all_set Env.val_get Env.val_set Env.set_get Env.set_set
attribute [local go_sem] size_put size_ext blk_put free_put blk_alloc free_alloc blk_drew free_drew blk_ext free_ext lookOr_some putOr_some segAt_some cellAt_some storeIn_some put_put put_alloc_new length_arr ok_arr_u8 ok_arr_u32 ok_arr_u64 ok_arr_i64 ok_arr_sl cellsV_agg cellsV_int cellsV_bool cellsV_string cellsV_pointer cellsV_slice cellsV_sl ok_int ok_bool ok_string ok_pointer ok_slice ok_sl toList_arr seg_arr set_arr nth_splice nth_splice0 seg_splice seg_splice0 splice_splice splice_splice0 length_splice_if
attribute [local go_sem ↓] execOp_box
attribute [local go_sem] box_run nth_arr_u8 put_arr_u8 blk_drewN free_drewN put_drewN blk_raw free_raw
/-- A list without one tuple. -/
def delT (L : List Tup) (t : Tup) : List Tup := L.filter fun x => decide (x ≠ t)
/-- One change of the base relations, plainly: the code and the relations. -/
def changeF (B : List (List Tup)) (ch : Change) : Int × List (List Tup) :=
  if ch.del then (if ch.t ∈ rowsAt B ch.pred.toNat then (0, B.set ch.pred.toNat (delT (rowsAt B ch.pred.toNat) ch.t)) else (15, B))
  else (if ch.t ∈ rowsAt B ch.pred.toNat then (14, B) else (0, addR B ch.pred.toNat ch.t))
theorem delT_ok {L : List Tup} (h : OutOk L) (t : Tup) : OutOk (delT L t) := ⟨h.1.filter _, fun x hx => h.2 x (List.mem_filter.1 hx).1⟩
/-- A change that fits the relations. -/
def ChOk (n : Nat) (ch : Change) : Prop := 0 ≤ ch.pred ∧ ch.pred.toNat < n ∧ (ch.del = false → TOk ch.t)
theorem changeF_inv {p : PP} {B : List (List Tup)} (h : RInv p B) {ch : Change} (hc : ChOk p.preds.length ch) : RInv p (changeF B ch).2 := by
  unfold changeF
  by_cases hd : ch.del = true
  · rw [if_pos hd]
    by_cases hm : ch.t ∈ rowsAt B ch.pred.toNat
    · rw [if_pos hm]
      refine ⟨fun L hL => ?_, by rw [List.length_set]; exact h.2⟩
      rcases mem_set_cases hL with rfl | hL
      · exact delT_ok (h.1.at _) _
      · exact h.1 L hL
    · rw [if_neg hm]; exact h
  · rw [if_neg hd]
    by_cases hm : ch.t ∈ rowsAt B ch.pred.toNat
    · rw [if_pos hm]; exact h
    · rw [if_neg hm]; exact h.add hm (hc.2.2 (by simpa using hd))
theorem delT_take {L : List Tup} {t x : Tup} {i : Nat} (h : L[i]? = some x) : delT (L.take (i + 1)) t = if x = t then delT (L.take i) t else delT (L.take i) t ++ [x] := by
  unfold delT
  rw [take_at h, List.filter_append]
  by_cases hx : x = t
  · rw [if_pos hx]; simp [hx]
  · rw [if_neg hx]; simp [hx]
theorem delT_len (L : List Tup) (t : Tup) (i : Nat) : (delT (L.take i) t).length ≤ L.length := Nat.le_trans (List.length_filter_le _ _) (by rw [List.length_take]; omega)
def ChPost (W0 : World) (bo : Nat) (B : List (List Tup)) (ch : Change) (e : Ending) (V : World) : Prop := ∃ O', e = .returned (.int .i64 (changeF B ch).1) ∧ RelO W0 bo (changeF B ch).2 O' V
def chI (W2 : World) (bo n b3 : Nat) (L : List Tup) (t : Tup) (f : Nat → Value) (V : World) : Prop := f 0 = .slice (some ⟨bo, 0, none⟩) n n ∧ f 3 = .pointer (some ⟨b3, 0, none⟩) ∧ ∃ (i : Nat) (a : Option Addr) (m c : Nat), i ≤ L.length ∧ f 5 = .slice a m c ∧ f 6 = .int .i64 (i : Nat) ∧ Hid (Outs W2 V a m c (delT (L.take i) t))
attribute [local go_sem ↓] execOp_bslice execOp_build execOp_make execOp_eql153 execOp_neq153
attribute [local go_sem] bslice148 eql153 neq153
set_option maxRecDepth 100000 in
theorem frame77c (f : Nat → Value) : frameN 77 f = #[f 0, f 1, f 2, f 3, f 4, f 5, f 6, f 7, f 8, f 9, f 10, f 11, f 12, f 13, f 14, f 15, f 16, f 17, f 18, f 19, f 20, f 21, f 22, f 23, f 24, f 25, f 26, f 27, f 28, f 29, f 30, f 31, f 32, f 33, f 34, f 35, f 36, f 37, f 38, f 39, f 40, f 41, f 42, f 43, f 44, f 45, f 46, f 47, f 48, f 49, f 50, f 51, f 52, f 53, f 54, f 55, f 56, f 57, f 58, f 59, f 60, f 61, f 62, f 63, f 64, f 65, f 66, f 67, f 68, f 69, f 70, f 71, f 72, f 73, f 74, f 75, f 76] := by kernel_rfl
set_option maxRecDepth 40000 in
set_option maxHeartbeats 4000000 in
theorem change_any {W0 W : World} {bo : Nat} {B : List (List Tup)} {O : Own} (hO : RelO W0 bo B O W) (hB : SOk B) (ch : Change) (hc : ChOk B.length ch) (hn : B.length ≤ 100) : Calls Tryz.prog 161 #[.slice (some ⟨bo, 0, none⟩) B.length B.length, .agg ch.enc.toArray] W (ChPost W0 bo B ch) := by
  obtain ⟨Q, hQ⟩ : ∃ Q, Q = ChPost W0 bo B ch := ⟨_, rfl⟩
  rw [← hQ]
  have HQ := hid_of hQ
  obtain ⟨q, hq⟩ : ∃ q : Nat, ch.pred = (q : Int) := ⟨ch.pred.toNat, by have := hc.1; omega⟩
  have hqn : q < B.length := by have := hc.2.1; rw [hq] at this; exact this
  have HPQ : Hid (ch.pred.toNat = q) := by show _ = _; rw [hq]; rfl
  obtain ⟨L, hL⟩ : ∃ L, B[q]? = some L := ⟨_, List.getElem?_eq_getElem hqn⟩
  have hLo := (hB L (List.mem_of_getElem? hL)).len
  have hra : rowsAt B q = L := rowsAt_some hL
  have hcF : changeF B ch = if ch.del then (if ch.t ∈ L then (0, B.set q (delT L ch.t)) else (15, B)) else (if ch.t ∈ L then (14, B) else (0, addR B q ch.t)) := by
    unfold changeF
    rw [HPQ.out, hra]
  have HCF := hid_of hcF
  have x0 : nth ch.enc 0 = some (.bool ch.del) := Change.del_get ch
  have x1 : nth ch.enc 1 = some (.int .i64 (q : Int)) := by rw [← hq]; exact Change.pred_get ch
  have x2 : seg ch.enc 2 4 = arr i64v ch.t := Change.t_get ch
  obtain ⟨X, hX⟩ : ∃ X, X = ch.enc := ⟨_, rfl⟩
  have xl : X.length = 6 := by rw [hX]; exact Change.length_enc ch
  rw [← hX] at x0 x1 x2 ⊢
  have xl0 : 0 < X.length := by omega
  have xl1 : 1 < X.length := by omega
  have xl2 : 2 + 4 ≤ X.length := by omega
  have q0 : (0 : Int) ≤ (q : Int) := by omega
  have q1 : (q : Int) < (B.length : Int) := by omega
  have q2 : ((q : Int)).toNat = q := by omega
  obtain ⟨n, hn'⟩ : ∃ n, n = B.length := ⟨_, rfl⟩
  rw [← hn'] at hn hqn q1 ⊢
  have HN := hid_of hn'
  obtain ⟨t, ht⟩ : ∃ t, t = ch.t := ⟨_, rfl⟩
  rw [← ht] at x2 HCF
  obtain ⟨dl, hdl⟩ : ∃ dl, dl = ch.del := ⟨_, rfl⟩
  rw [← hdl] at x0 HCF
  have HL := hid_of hL
  have HB := hid_of hB
  have HO := hid_of hO
  clear hQ hX hq hn' ht hdl hL hB hra hcF hc xl
  go_enter Tryz.func161, Tryz.ntmps161
  go_upto_region 1 with fail
  refine wp_world (fun V => W.Extends V ∧ blk V W.heap.size = some X) ⟨extends_alloc (ext_Ext (Ext.refl _)) _, by rw [blk_alloc, if_pos rfl]⟩ ?_
  rintro V1 ⟨hx1, hb3⟩
  obtain ⟨b3, eb3⟩ : ∃ b3, b3 = W.heap.size := ⟨_, rfl⟩
  rw [← eb3] at hb3 ⊢
  obtain ⟨O1, hO1⟩ : ∃ O1, O1 = lab O W.heap.size .no := ⟨_, rfl⟩
  have hR1 : RelO W0 bo B O1 V1 := by rw [hO1]; exact HO.out.grow hx1
  have hb3o : O1 b3 = .no := by rw [hO1, eb3]; exact lab_ge (Nat.le_refl _)
  clear eb3 hx1 hO hO1
  obtain ⟨C, w1, w2, w3⟩ := hR1.rows
  obtain ⟨la, lc, w4, w5⟩ := w3 q L HL.out
  have w6 : q < C.length := by rw [w2, ← HN.out]; exact hqn
  have hme := fun V' (hx : V1.Extends V') => member_any V' la L.length lc L ((w5.rw tpl_len).1.ext' hx) (by omega) t
  have HSX : Hid (∀ V', V1.Extends V' → blk V' bo = some C ∧ blk V' b3 = some X) := fun V' hx => ⟨(hx.blk (blk_lt w1)).trans w1, (hx.blk (blk_lt hb3)).trans hb3⟩
  have HRW := hid_of (w5.rw tpl_len).1
  obtain ⟨ll, hll⟩ : ∃ ll, ll = L.length := ⟨_, rfl⟩
  rw [← hll] at w4 hme hLo HRW
  have HLL := hid_of hll
  obtain ⟨mb, hmb⟩ : ∃ mb, mb = decide (t ∈ L) := ⟨_, rfl⟩
  rw [← hmb] at hme
  have HMB := hid_of hmb
  have HR1 := hid_of hR1
  have HB3 := hid_of hb3o
  clear hmb hR1 w2 w3 w5 hb3o hll
  cases dl with
  | false =>
    go_upto_region 2 with fail
    refine wp_region_held_drew (S := fun W' => blk W' bo = some C ∧ blk W' b3 = some X) (by kernel_rfl) (HSX.out _ (extd V1)) (fun hHeld => ?_)
    refine wpAnyH_take (i := 0) (oi := ⟨_, _, _, _, _, _⟩) (v := ?_) rfl (by kernel_rfl) (by kernel_rfl) (by kernel_rfl) (fun _ _ _ h => h) (Or.inl ⟨by rfl, ?_⟩) (by assumption) ?_
    rotate_left 1
    · intro W' hSw
      obtain ⟨hS1, hS2⟩ := hSw
      go_simp
      try with_reducible rfl
    try simp only [Act.put, List.setIfInBounds_toArray, List.set_cons_zero, List.set_cons_succ]
    refine wpAnyH_take (i := 1) (oi := ⟨_, _, _, _, _, _⟩) (v := ?_) rfl (by kernel_rfl) (by kernel_rfl) (by kernel_rfl) (fun _ _ _ h => h) (Or.inl ⟨by rfl, ?_⟩) (by assumption) ?_
    rotate_left 1
    · intro W' hSw
      obtain ⟨hS1, hS2⟩ := hSw
      go_simp
      try with_reducible rfl
    try simp only [Act.put, List.setIfInBounds_toArray, List.set_cons_zero, List.set_cons_succ]
    refine wpAnyH_take (i := 2) (oi := ⟨_, _, _, _, _, _⟩) (v := ?_) rfl (by kernel_rfl) (by kernel_rfl) (by kernel_rfl) (fun _ _ _ h => h) (Or.inl ⟨by rfl, ?_⟩) (by assumption) ?_
    rotate_left 1
    · intro W' hSw
      obtain ⟨hS1, hS2⟩ := hSw
      go_simp
      try with_reducible rfl
    try simp only [Act.put, List.setIfInBounds_toArray, List.set_cons_zero, List.set_cons_succ]
    refine wpAnyH_take (i := 3) (oi := ⟨_, _, _, _, _, _⟩) (v := ?_) rfl (by kernel_rfl) (by kernel_rfl) (by kernel_rfl) (fun _ _ _ h => h) (Or.inl ⟨by rfl, ?_⟩) (by assumption) ?_
    rotate_left 1
    · intro W' hSw
      obtain ⟨hS1, hS2⟩ := hSw
      go_simp
      try with_reducible rfl
    try simp only [Act.put, List.setIfInBounds_toArray, List.set_cons_zero, List.set_cons_succ]
    refine wpAnyH_take (i := 4) (oi := ⟨_, _, _, _, _, _⟩) (v := ?_) rfl (by kernel_rfl) (by kernel_rfl) (by kernel_rfl) (fun _ _ _ h => h) (Or.inl ⟨by rfl, ?_⟩) (by assumption) ?_
    rotate_left 1
    · intro W' hSw
      obtain ⟨hS1, hS2⟩ := hSw
      go_simp
      try with_reducible rfl
    try simp only [Act.put, List.setIfInBounds_toArray, List.set_cons_zero, List.set_cons_succ]
    refine wpAnyH_take (i := 5) (oi := ⟨_, _, _, _, _, _⟩) (v := ?_) rfl (by kernel_rfl) (by kernel_rfl) (by kernel_rfl) (fun _ _ _ h => h) (Or.inl ⟨by rfl, ?_⟩) (by assumption) ?_
    rotate_left 1
    · intro W' hSw
      obtain ⟨hS1, hS2⟩ := hSw
      go_simp
      try with_reducible rfl
    try simp only [Act.put, List.setIfInBounds_toArray, List.set_cons_zero, List.set_cons_succ]
    refine wpAnyH_take (i := 6) (oi := ⟨_, _, _, _, _, _⟩) (v := ?_) rfl (by kernel_rfl) (by kernel_rfl) (by kernel_rfl) (fun _ _ _ h => h) (Or.inl ⟨by rfl, ?_⟩) (by assumption) ?_
    rotate_left 1
    · intro W' hSw
      obtain ⟨hS1, hS2⟩ := hSw
      go_simp
      try with_reducible rfl
    try simp only [Act.put, List.setIfInBounds_toArray, List.set_cons_zero, List.set_cons_succ]
    refine wpAnyH_ready (rs := [7]) (by kernel_rfl) (by simp) ?_
    refine AllReadyH.cons (o := ⟨_, _, _, _, _, _⟩) rfl (fun K' hK => ?_) AllReadyH.nil
    go_simp
    refine (hme _ (extd V1)).mono ?_
    rintro en V6 ⟨rfl, hx6⟩
    have hx6' : V1.Extends V6 := (extd V1).trans hx6
    dsimp only
    refine hK.out _ _ (HSX.out _ hx6') (fun hHeld => ?_)
    clear hK K'
    try simp only [Act.put, List.setIfInBounds_toArray, List.set_cons_zero, List.set_cons_succ]
    refine wpAnyH_done (by kernel_rfl) ?_ _
    cases hmb : mb
    rotate_left 1
    · have hm : t ∈ L := of_decide_eq_true (HMB.out.symm.trans hmb)
      have HP : Hid (Q (.returned (.int .i64 14)) V6) := by
        show Q _ _
        rw [HQ.out]
        have e1 := HCF.out
        rw [if_neg (by decide), if_pos hm] at e1
        unfold ChPost
        rw [e1]
        exact ⟨_, rfl, HR1.out.grow hx6'⟩
      clear HR1 HSX hmb HMB hm
      go_wp2_with fail
      try go_ret
      exact HP.out
    · have hm : t ∉ L := of_decide_eq_false (HMB.out.symm.trans hmb)
      have hO6 := HR1.out.grow hx6'
      obtain ⟨C', la', lc', a', c', V7, O7, y1, y2, y3, hrun, y5, y6, y7, y8, y9⟩ := hO6.drew.app HL.out t (by rw [← HLL.out]; omega)
      rw [← HLL.out] at y3 hrun y8 y9
      obtain rfl : C = C' := by
        have h9 : blk V6 bo = some C := (hx6'.blk (blk_lt w1)).trans w1
        exact Option.some.inj (h9.symm.trans y1)
      have hb6 : blk V6 b3 = some X := (hx6'.blk (blk_lt hb3)).trans hb3
      have hOt : lab O1 V1.heap.size .no b3 = .no := by rw [lab_lt (blk_lt hb3)]; exact HB3.out
      have hb7 : blk V7 b3 = some X := y7.blk (W := V6.drew) hb6 (by rw [hOt]; exact isRo_no)
      have nt : ¬ b3 = bo := fun e => by
        rw [e, lab_lt (blk_lt w1), HR1.out.lab] at hOt; cases hOt
      have hfin : ∀ X', blk (put V7 bo X') b3 = some X := fun X' => by rw [blk_put, if_neg nt]; exact hb7
      have hal : ∀ X', blk (V6.drew.alloc X') b3 = some X := fun X' => ((extends_alloc (ext_Ext (Ext.refl _)) X' : V6.drew.Extends _).blk (blk_lt (w := V6.drew) hb6)).trans hb6
      have HP : Hid (Q (.returned (.int .i64 0)) (put V7 bo (splice C q [.slice a' (ll + 1) c']))) := by
        show Q _ _
        rw [HQ.out]
        have e1 := HCF.out
        rw [if_neg (by decide), if_neg hm] at e1
        unfold ChPost
        rw [e1]
        exact ⟨O7, rfl, y9⟩
      have y1' : blk V6 bo = some C := y1
      have y2' : q + 1 ≤ C.length := by omega
      have mbo : ¬ bo = V6.heap.size := Nat.ne_of_lt (blk_lt y1')
      have mb3 : ¬ b3 = V6.heap.size := Nat.ne_of_lt (blk_lt hb6)
      clear HR1 HSX hx6' hO6 y7 y8 y9 y1 w1 w4 hb3 hOt nt hm hmb HMB
      go_upto_region 4 with fail
      refine wp_region_held_drew (S := fun W' => blk W' b3 = some X) (by kernel_rfl) hb6 (fun hHeld => ?_)
      refine wpAnyH_take (i := 0) (oi := ⟨_, _, _, _, _, _⟩) (v := ?_) rfl (by kernel_rfl) (by kernel_rfl) (by kernel_rfl) (fun _ _ _ h => h) (Or.inl ⟨by rfl, ?_⟩) (by assumption) ?_
      rotate_left 1
      · intro W' hSw
        go_simp
        try with_reducible rfl
      try simp only [Act.put, List.setIfInBounds_toArray, List.set_cons_zero, List.set_cons_succ]
      refine wpAnyH_take (i := 1) (oi := ⟨_, _, _, _, _, _⟩) (v := ?_) rfl (by kernel_rfl) (by kernel_rfl) (by kernel_rfl) (fun _ _ _ h => h) (Or.inl ⟨by rfl, ?_⟩) (by assumption) ?_
      rotate_left 1
      · intro W' hSw
        go_simp
        try with_reducible rfl
      try simp only [Act.put, List.setIfInBounds_toArray, List.set_cons_zero, List.set_cons_succ]
      refine wpAnyH_take (i := 2) (oi := ⟨_, _, _, _, _, _⟩) (v := ?_) rfl (by kernel_rfl) (by kernel_rfl) (by kernel_rfl) (fun _ _ _ h => h) (Or.inl ⟨by rfl, ?_⟩) (by assumption) ?_
      rotate_left 1
      · intro W' hSw
        go_simp
        try with_reducible rfl
      try simp only [Act.put, List.setIfInBounds_toArray, List.set_cons_zero, List.set_cons_succ]
      refine wpAnyH_take (i := 3) (oi := ⟨_, _, _, _, _, _⟩) (v := ?_) rfl (by kernel_rfl) (by kernel_rfl) (by kernel_rfl) (fun _ _ _ h => h) (Or.inl ⟨by rfl, ?_⟩) (by assumption) ?_
      rotate_left 1
      · intro W' hSw
        go_simp
        try with_reducible rfl
      try simp only [Act.put, List.setIfInBounds_toArray, List.set_cons_zero, List.set_cons_succ]
      refine wpAnyH_take (i := 4) (oi := ⟨_, _, _, _, _, _⟩) (v := ?_) rfl (by kernel_rfl) (by kernel_rfl) (by kernel_rfl) (fun _ _ _ h => h) (Or.inl ⟨by rfl, ?_⟩) (by assumption) ?_
      rotate_left 1
      · intro W' hSw
        go_simp
        try with_reducible rfl
      try simp only [Act.put, List.setIfInBounds_toArray, List.set_cons_zero, List.set_cons_succ]
      refine wpAnyH_take (i := 5) (oi := ⟨_, _, _, _, _, _⟩) (v := ?_) rfl (by kernel_rfl) (by kernel_rfl) (by kernel_rfl) (fun _ _ _ h => h) (Or.inl ⟨by rfl, ?_⟩) (by assumption) ?_
      rotate_left 1
      · intro W' hSw
        go_simp
        try with_reducible rfl
      try simp only [Act.put, List.setIfInBounds_toArray, List.set_cons_zero, List.set_cons_succ]
      refine wpAnyH_take (i := 6) (oi := ⟨_, _, _, _, _, _⟩) (v := ?_) rfl (by kernel_rfl) (by kernel_rfl) (by kernel_rfl) (fun _ _ _ h => h) (Or.inl ⟨by rfl, ?_⟩) (by assumption) ?_
      rotate_left 1
      · intro W' hSw
        go_simp
        try with_reducible rfl
      try simp only [Act.put, List.setIfInBounds_toArray, List.set_cons_zero, List.set_cons_succ]
      refine wpAnyH_take (i := 8) (oi := ⟨_, _, _, _, _, _⟩) (v := ?_) rfl (by kernel_rfl) (by kernel_rfl) (by kernel_rfl) (fun _ _ _ h => h) (Or.inl ⟨by rfl, ?_⟩) (by assumption) ?_
      rotate_left 1
      · intro W' hSw
        go_simp
        try with_reducible rfl
      try simp only [Act.put, List.setIfInBounds_toArray, List.set_cons_zero, List.set_cons_succ]
      refine wpAnyH_take (i := 9) (oi := ⟨_, _, _, _, _, _⟩) (v := ?_) rfl (by kernel_rfl) (by kernel_rfl) (by kernel_rfl) (fun _ _ _ h => h) (Or.inl ⟨by rfl, ?_⟩) (by assumption) ?_
      rotate_left 1
      · intro W' hSw
        go_simp
        try with_reducible rfl
      try simp only [Act.put, List.setIfInBounds_toArray, List.set_cons_zero, List.set_cons_succ]
      refine wpAnyH_ready (rs := [7, 10]) (by kernel_rfl) (by simp) ?_
      refine AllReadyH.cons (o := ⟨_, _, _, _, _, _⟩) rfl (fun K' hK => ?_) (AllReadyH.cons (o := ⟨_, _, _, _, _, _⟩) rfl (fun K' hK => ?_) AllReadyH.nil)
      · go_simp
        refine hK.out _ _ hb6 (fun hHeld => ?_)
        clear hK K'
        try simp only [Act.put, List.setIfInBounds_toArray, List.set_cons_zero, List.set_cons_succ]
        refine wpAnyH_ready (rs := [10]) (by kernel_rfl) (by simp) ?_
        refine AllReadyH.cons (o := ⟨_, _, _, _, _, _⟩) rfl (fun K' hK => ?_) AllReadyH.nil
        go_simp
        refine hK.out _ _ (hal _) (fun hHeld => ?_)
        clear hK K'
        try simp only [Act.put, List.setIfInBounds_toArray, List.set_cons_zero, List.set_cons_succ]
        refine wpAnyH_ready (rs := [11]) (by kernel_rfl) (by simp) ?_
        refine AllReadyH.cons (o := ⟨_, _, _, _, _, _⟩) rfl (fun K' hK => ?_) AllReadyH.nil
        refine wp_append_run _ _ 257 rfl _ _ _ _ rfl rfl hrun ?_
        refine hK.out _ _ hb7 (fun hHeld => ?_)
        clear hK K'
        try simp only [Act.put, List.setIfInBounds_toArray, List.set_cons_zero, List.set_cons_succ]
        refine wpAnyH_take (i := 12) (oi := ⟨_, _, _, _, _, _⟩) (v := ?_) rfl (by kernel_rfl) (by kernel_rfl) (by kernel_rfl) (fun _ _ _ h => h) (Or.inl ⟨by rfl, ?_⟩) (by assumption) ?_
        rotate_left 1
        · intro W' hSw
          go_simp
          try with_reducible rfl
        try simp only [Act.put, List.setIfInBounds_toArray, List.set_cons_zero, List.set_cons_succ]
        refine wpAnyH_ready (rs := [13]) (by kernel_rfl) (by simp) ?_
        refine AllReadyH.cons (o := ⟨_, _, _, _, _, _⟩) rfl (fun K' hK => ?_) AllReadyH.nil
        go_simp
        refine hK.out _ _ (hfin _) (fun hHeld => ?_)
        clear hK K'
        try simp only [Act.put, List.setIfInBounds_toArray, List.set_cons_zero, List.set_cons_succ]
        refine wpAnyH_done (by kernel_rfl) ?_ _
        clear hHeld hrun
        go_wp2_with fail
        try go_ret
        exact HP.out
      · go_simp
        refine hK.out _ _ (hal _) (fun hHeld => ?_)
        clear hK K'
        try simp only [Act.put, List.setIfInBounds_toArray, List.set_cons_zero, List.set_cons_succ]
        refine wpAnyH_ready (rs := [7]) (by kernel_rfl) (by simp) ?_
        refine AllReadyH.cons (o := ⟨_, _, _, _, _, _⟩) rfl (fun K' hK => ?_) AllReadyH.nil
        go_simp
        refine hK.out _ _ (hal _) (fun hHeld => ?_)
        clear hK K'
        try simp only [Act.put, List.setIfInBounds_toArray, List.set_cons_zero, List.set_cons_succ]
        refine wpAnyH_ready (rs := [11]) (by kernel_rfl) (by simp) ?_
        refine AllReadyH.cons (o := ⟨_, _, _, _, _, _⟩) rfl (fun K' hK => ?_) AllReadyH.nil
        refine wp_append_run _ _ 257 rfl _ _ _ _ rfl rfl hrun ?_
        refine hK.out _ _ hb7 (fun hHeld => ?_)
        clear hK K'
        try simp only [Act.put, List.setIfInBounds_toArray, List.set_cons_zero, List.set_cons_succ]
        refine wpAnyH_take (i := 12) (oi := ⟨_, _, _, _, _, _⟩) (v := ?_) rfl (by kernel_rfl) (by kernel_rfl) (by kernel_rfl) (fun _ _ _ h => h) (Or.inl ⟨by rfl, ?_⟩) (by assumption) ?_
        rotate_left 1
        · intro W' hSw
          go_simp
          try with_reducible rfl
        try simp only [Act.put, List.setIfInBounds_toArray, List.set_cons_zero, List.set_cons_succ]
        refine wpAnyH_ready (rs := [13]) (by kernel_rfl) (by simp) ?_
        refine AllReadyH.cons (o := ⟨_, _, _, _, _, _⟩) rfl (fun K' hK => ?_) AllReadyH.nil
        go_simp
        refine hK.out _ _ (hfin _) (fun hHeld => ?_)
        clear hK K'
        try simp only [Act.put, List.setIfInBounds_toArray, List.set_cons_zero, List.set_cons_succ]
        refine wpAnyH_done (by kernel_rfl) ?_ _
        clear hHeld hrun
        go_wp2_with fail
        try go_ret
        exact HP.out
  | true =>
    go_upto_region 6 with fail
    refine wp_region_held_drew (S := fun W' => blk W' bo = some C ∧ blk W' b3 = some X) (by kernel_rfl) (HSX.out _ (extd V1)) (fun hHeld => ?_)
    refine wpAnyH_take (i := 0) (oi := ⟨_, _, _, _, _, _⟩) (v := ?_) rfl (by kernel_rfl) (by kernel_rfl) (by kernel_rfl) (fun _ _ _ h => h) (Or.inl ⟨by rfl, ?_⟩) (by assumption) ?_
    rotate_left 1
    · intro W' hSw
      obtain ⟨hS1, hS2⟩ := hSw
      go_simp
      try with_reducible rfl
    try simp only [Act.put, List.setIfInBounds_toArray, List.set_cons_zero, List.set_cons_succ]
    refine wpAnyH_take (i := 1) (oi := ⟨_, _, _, _, _, _⟩) (v := ?_) rfl (by kernel_rfl) (by kernel_rfl) (by kernel_rfl) (fun _ _ _ h => h) (Or.inl ⟨by rfl, ?_⟩) (by assumption) ?_
    rotate_left 1
    · intro W' hSw
      obtain ⟨hS1, hS2⟩ := hSw
      go_simp
      try with_reducible rfl
    try simp only [Act.put, List.setIfInBounds_toArray, List.set_cons_zero, List.set_cons_succ]
    refine wpAnyH_take (i := 2) (oi := ⟨_, _, _, _, _, _⟩) (v := ?_) rfl (by kernel_rfl) (by kernel_rfl) (by kernel_rfl) (fun _ _ _ h => h) (Or.inl ⟨by rfl, ?_⟩) (by assumption) ?_
    rotate_left 1
    · intro W' hSw
      obtain ⟨hS1, hS2⟩ := hSw
      go_simp
      try with_reducible rfl
    try simp only [Act.put, List.setIfInBounds_toArray, List.set_cons_zero, List.set_cons_succ]
    refine wpAnyH_take (i := 3) (oi := ⟨_, _, _, _, _, _⟩) (v := ?_) rfl (by kernel_rfl) (by kernel_rfl) (by kernel_rfl) (fun _ _ _ h => h) (Or.inl ⟨by rfl, ?_⟩) (by assumption) ?_
    rotate_left 1
    · intro W' hSw
      obtain ⟨hS1, hS2⟩ := hSw
      go_simp
      try with_reducible rfl
    try simp only [Act.put, List.setIfInBounds_toArray, List.set_cons_zero, List.set_cons_succ]
    refine wpAnyH_take (i := 4) (oi := ⟨_, _, _, _, _, _⟩) (v := ?_) rfl (by kernel_rfl) (by kernel_rfl) (by kernel_rfl) (fun _ _ _ h => h) (Or.inl ⟨by rfl, ?_⟩) (by assumption) ?_
    rotate_left 1
    · intro W' hSw
      obtain ⟨hS1, hS2⟩ := hSw
      go_simp
      try with_reducible rfl
    try simp only [Act.put, List.setIfInBounds_toArray, List.set_cons_zero, List.set_cons_succ]
    refine wpAnyH_take (i := 5) (oi := ⟨_, _, _, _, _, _⟩) (v := ?_) rfl (by kernel_rfl) (by kernel_rfl) (by kernel_rfl) (fun _ _ _ h => h) (Or.inl ⟨by rfl, ?_⟩) (by assumption) ?_
    rotate_left 1
    · intro W' hSw
      obtain ⟨hS1, hS2⟩ := hSw
      go_simp
      try with_reducible rfl
    try simp only [Act.put, List.setIfInBounds_toArray, List.set_cons_zero, List.set_cons_succ]
    refine wpAnyH_take (i := 6) (oi := ⟨_, _, _, _, _, _⟩) (v := ?_) rfl (by kernel_rfl) (by kernel_rfl) (by kernel_rfl) (fun _ _ _ h => h) (Or.inl ⟨by rfl, ?_⟩) (by assumption) ?_
    rotate_left 1
    · intro W' hSw
      obtain ⟨hS1, hS2⟩ := hSw
      go_simp
      try with_reducible rfl
    try simp only [Act.put, List.setIfInBounds_toArray, List.set_cons_zero, List.set_cons_succ]
    refine wpAnyH_ready (rs := [7]) (by kernel_rfl) (by simp) ?_
    refine AllReadyH.cons (o := ⟨_, _, _, _, _, _⟩) rfl (fun K' hK => ?_) AllReadyH.nil
    go_simp
    refine (hme _ (extd V1)).mono ?_
    rintro en V6 ⟨rfl, hx6⟩
    have hx6' : V1.Extends V6 := (extd V1).trans hx6
    dsimp only
    refine hK.out _ _ (HSX.out _ hx6') (fun hHeld => ?_)
    clear hK K'
    try simp only [Act.put, List.setIfInBounds_toArray, List.set_cons_zero, List.set_cons_succ]
    refine wpAnyH_take (i := 8) (oi := ⟨_, _, _, _, _, _⟩) (v := ?_) rfl (by kernel_rfl) (by kernel_rfl) (by kernel_rfl) (fun _ _ _ h => h) (Or.inl ⟨by rfl, ?_⟩) (by assumption) ?_
    rotate_left 1
    · intro W' hSw
      obtain ⟨hS1, hS2⟩ := hSw
      go_simp
      try with_reducible rfl
    try simp only [Act.put, List.setIfInBounds_toArray, List.set_cons_zero, List.set_cons_succ]
    refine wpAnyH_done (by kernel_rfl) ?_ _
    cases hmb : mb
    · have hm : t ∉ L := of_decide_eq_false (HMB.out.symm.trans hmb)
      have HP : Hid (Q (.returned (.int .i64 15)) V6) := by
        show Q _ _
        rw [HQ.out]
        have e1 := HCF.out
        rw [if_pos rfl, if_neg hm] at e1
        unfold ChPost
        rw [e1]
        exact ⟨_, rfl, HR1.out.grow hx6'⟩
      clear HR1 HSX hmb HMB hm
      go_wp2_with fail
      try go_ret
      exact HP.out
    · have hm : t ∈ L := of_decide_eq_true (HMB.out.symm.trans hmb)
      have e1 := HCF.out
      rw [if_pos rfl, if_pos hm] at e1
      have HCF2 := hid_of e1
      have HX6 := hid_of hx6'
      have HI0 : Hid (Outs V6 V6 none 0 0 (delT (L.take 0) t)) := Outs.nil _ _ (ext_Ext (Ext.refl _))
      clear e1 hm hmb HMB hme
      go_upto_region 10 with fail
      refine wp_loop_f 77 (chI V6 bo n b3 L t) (fun f _ => ll - (intOf (f 6)).toNat) rfl ⟨rfl, rfl, 0, none, 0, 0, by omega, rfl, rfl, HI0⟩ ?_
      clear HI0
      intro F V hrel
      obtain ⟨f0, f3, i, a, m, c, hi, f5, f6, HI⟩ := hrel
      have H6 := hid_of f6
      rw [frame77c, f0, f3, f5, f6]
      clear f0 f3 f5 f6
      have hxV := HX6.out.trans HI.out.2.1
      obtain ⟨hbo, hb3'⟩ := HSX.out V hxV
      rw [← HLL.out] at hi
      by_cases hin : i < ll
      rotate_left 1
      · have hin' : ¬ (i : Int) < (ll : Int) := by omega
        have hO6 := HR1.out.grow HX6.out
        obtain ⟨C', O', k1, k2, k3, k4, k5⟩ := hO6.set (q := q) (by rw [← HN.out]; exact hqn) HI.out
        obtain rfl : C = C' := Option.some.inj (hbo.symm.trans k1)
        have HP : Hid (Q (.returned (.int .i64 0)) (put V bo (splice C q [.slice a m c]))) := by
          show Q _ _
          rw [HQ.out]
          unfold ChPost
          rw [HCF2.out]
          rw [List.take_of_length_le (by rw [← HLL.out]; omega)] at k5
          exact ⟨O', rfl, k5⟩
        have w6' : q + 1 ≤ C.length := by omega
        clear hO6 k1 k2 k4 k5 HI hxV HR1 HSX hx6' w1 hb3
        go_wp2_with fail
        try go_ret
        exact HP.out
      have hin' : (i : Int) < (ll : Int) := by omega
      obtain ⟨x, hx⟩ : ∃ x, L[i]? = some x := ⟨_, List.getElem?_eq_getElem (by rw [← HLL.out]; exact hin)⟩
      obtain ⟨bt, Ct, v1, v2, v3, v4, v5⟩ := tup_at (HRW.out.ext' hxV) hx
      subst v1
      have i0 : (0 : Int) ≤ (i : Int) := by omega
      have i2 : ((i : Int)).toNat = i := by omega
      have v6 : i * 4 < Ct.length := by omega
      have htk := delT_take (t := t) hx
      by_cases hxt : x = t
      · rw [if_pos hxt] at htk
        have HI' : Hid (Outs V6 V.drew a m c (delT (L.take (i + 1)) t)) := by
          show Outs _ _ _ _ _ _
          rw [htk]; exact HI.out.ext (extd V)
        have hde : decide (x = t) = true := decide_eq_true hxt
        clear htk HI hxt hx hxV HR1 HSX hx6' w1 hb3
        go_upto_region 12 with fail
        refine wp_region_held_drew (S := fun W' => blk W' bo = some C ∧ blk W' b3 = some X ∧ blk W' bt = some Ct) (by kernel_rfl) ⟨hbo, hb3', v2⟩ (fun hHeld => ?_)
        refine wpAnyH_take (i := 0) (oi := ⟨_, _, _, _, _, _⟩) (v := ?_) rfl (by kernel_rfl) (by kernel_rfl) (by kernel_rfl) (fun _ _ _ h => h) (Or.inl ⟨by rfl, ?_⟩) (by assumption) ?_
        rotate_left 1
        · intro W' hSw
          obtain ⟨hS1, hS2, hS3⟩ := hSw
          go_simp
          try with_reducible rfl
        try simp only [Act.put, List.setIfInBounds_toArray, List.set_cons_zero, List.set_cons_succ]
        refine wpAnyH_take (i := 1) (oi := ⟨_, _, _, _, _, _⟩) (v := ?_) rfl (by kernel_rfl) (by kernel_rfl) (by kernel_rfl) (fun _ _ _ h => h) (Or.inl ⟨by rfl, ?_⟩) (by assumption) ?_
        rotate_left 1
        · intro W' hSw
          obtain ⟨hS1, hS2, hS3⟩ := hSw
          go_simp
          try with_reducible rfl
        try simp only [Act.put, List.setIfInBounds_toArray, List.set_cons_zero, List.set_cons_succ]
        refine wpAnyH_take (i := 2) (oi := ⟨_, _, _, _, _, _⟩) (v := ?_) rfl (by kernel_rfl) (by kernel_rfl) (by kernel_rfl) (fun _ _ _ h => h) (Or.inl ⟨by rfl, ?_⟩) (by assumption) ?_
        rotate_left 1
        · intro W' hSw
          obtain ⟨hS1, hS2, hS3⟩ := hSw
          go_simp
          try with_reducible rfl
        try simp only [Act.put, List.setIfInBounds_toArray, List.set_cons_zero, List.set_cons_succ]
        refine wpAnyH_take (i := 3) (oi := ⟨_, _, _, _, _, _⟩) (v := ?_) rfl (by kernel_rfl) (by kernel_rfl) (by kernel_rfl) (fun _ _ _ h => h) (Or.inl ⟨by rfl, ?_⟩) (by assumption) ?_
        rotate_left 1
        · intro W' hSw
          obtain ⟨hS1, hS2, hS3⟩ := hSw
          go_simp
          try with_reducible rfl
        try simp only [Act.put, List.setIfInBounds_toArray, List.set_cons_zero, List.set_cons_succ]
        refine wpAnyH_take (i := 4) (oi := ⟨_, _, _, _, _, _⟩) (v := ?_) rfl (by kernel_rfl) (by kernel_rfl) (by kernel_rfl) (fun _ _ _ h => h) (Or.inl ⟨by rfl, ?_⟩) (by assumption) ?_
        rotate_left 1
        · intro W' hSw
          obtain ⟨hS1, hS2, hS3⟩ := hSw
          go_simp
          try with_reducible rfl
        try simp only [Act.put, List.setIfInBounds_toArray, List.set_cons_zero, List.set_cons_succ]
        refine wpAnyH_take (i := 5) (oi := ⟨_, _, _, _, _, _⟩) (v := ?_) rfl (by kernel_rfl) (by kernel_rfl) (by kernel_rfl) (fun _ _ _ h => h) (Or.inl ⟨by rfl, ?_⟩) (by assumption) ?_
        rotate_left 1
        · intro W' hSw
          obtain ⟨hS1, hS2, hS3⟩ := hSw
          go_simp
          try with_reducible rfl
        try simp only [Act.put, List.setIfInBounds_toArray, List.set_cons_zero, List.set_cons_succ]
        refine wpAnyH_take (i := 6) (oi := ⟨_, _, _, _, _, _⟩) (v := ?_) rfl (by kernel_rfl) (by kernel_rfl) (by kernel_rfl) (fun _ _ _ h => h) (Or.inl ⟨by rfl, ?_⟩) (by assumption) ?_
        rotate_left 1
        · intro W' hSw
          obtain ⟨hS1, hS2, hS3⟩ := hSw
          go_simp
          try with_reducible rfl
        try simp only [Act.put, List.setIfInBounds_toArray, List.set_cons_zero, List.set_cons_succ]
        refine wpAnyH_take (i := 7) (oi := ⟨_, _, _, _, _, _⟩) (v := ?_) rfl (by kernel_rfl) (by kernel_rfl) (by kernel_rfl) (fun _ _ _ h => h) (Or.inl ⟨by rfl, ?_⟩) (by assumption) ?_
        rotate_left 1
        · intro W' hSw
          obtain ⟨hS1, hS2, hS3⟩ := hSw
          go_simp
          try with_reducible rfl
        try simp only [Act.put, List.setIfInBounds_toArray, List.set_cons_zero, List.set_cons_succ]
        refine wpAnyH_take (i := 8) (oi := ⟨_, _, _, _, _, _⟩) (v := ?_) rfl (by kernel_rfl) (by kernel_rfl) (by kernel_rfl) (fun _ _ _ h => h) (Or.inl ⟨by rfl, ?_⟩) (by assumption) ?_
        rotate_left 1
        · intro W' hSw
          obtain ⟨hS1, hS2, hS3⟩ := hSw
          go_simp
          try with_reducible rfl
        try simp only [Act.put, List.setIfInBounds_toArray, List.set_cons_zero, List.set_cons_succ]
        refine wpAnyH_take (i := 9) (oi := ⟨_, _, _, _, _, _⟩) (v := ?_) rfl (by kernel_rfl) (by kernel_rfl) (by kernel_rfl) (fun _ _ _ h => h) (Or.inl ⟨by rfl, ?_⟩) (by assumption) ?_
        rotate_left 1
        · intro W' hSw
          obtain ⟨hS1, hS2, hS3⟩ := hSw
          go_simp
          try with_reducible rfl
        try simp only [Act.put, List.setIfInBounds_toArray, List.set_cons_zero, List.set_cons_succ]
        refine wpAnyH_take (i := 10) (oi := ⟨_, _, _, _, _, _⟩) (v := ?_) rfl (by kernel_rfl) (by kernel_rfl) (by kernel_rfl) (fun _ _ _ h => h) (Or.inl ⟨by rfl, ?_⟩) (by assumption) ?_
        rotate_left 1
        · intro W' hSw
          obtain ⟨hS1, hS2, hS3⟩ := hSw
          go_simp
          try with_reducible rfl
        try simp only [Act.put, List.setIfInBounds_toArray, List.set_cons_zero, List.set_cons_succ]
        refine wpAnyH_done (by kernel_rfl) ?_ _
        go_wp2_with fail
        refine ⟨rfl, rfl, ⟨rfl, rfl, i + 1, a, m, c, by rw [← HLL.out]; omega, rfl, ?_, HI'⟩, ?_⟩
        · show Value.int .i64 _ = _
          go_num
        · show ll - (intOf (Value.int .i64 _)).toNat < ll - (intOf (F 6)).toNat
          rw [H6.out]
          simp [intOf]; omega
      · rw [if_neg hxt] at htk
        have hde : decide (x = t) = false := decide_eq_false hxt
        have hod := HI.out.ext (extd V)
        have hml : (delT (L.take i) t).length ≤ 10000000000 := by
          have h1 := delT_len L t i
          have := HLL.out
          omega
        obtain ⟨a', c', V7, hrun, ho7⟩ := hod.app x hml
        have HI' : Hid (Outs V6 V7 a' (m + 1) c' (delT (L.take (i + 1)) t)) := by
          show Outs _ _ _ _ _ _
          rw [htk]; exact ho7
        have hbd : blk V.drew bo = some C := hbo
        have hb3d : blk V.drew b3 = some X := hb3'
        have hvd : blk V.drew bt = some Ct := v2
        clear htk HI hxt hx hxV HR1 HSX hx6' w1 hb3 hml ho7 hod
        go_upto_region 12 with fail
        refine wp_region_held_drew (S := fun W' => blk W' bo = some C ∧ blk W' b3 = some X ∧ blk W' bt = some Ct) (by kernel_rfl) ⟨hbo, hb3', v2⟩ (fun hHeld => ?_)
        refine wpAnyH_take (i := 0) (oi := ⟨_, _, _, _, _, _⟩) (v := ?_) rfl (by kernel_rfl) (by kernel_rfl) (by kernel_rfl) (fun _ _ _ h => h) (Or.inl ⟨by rfl, ?_⟩) (by assumption) ?_
        rotate_left 1
        · intro W' hSw
          obtain ⟨hS1, hS2, hS3⟩ := hSw
          go_simp
          try with_reducible rfl
        try simp only [Act.put, List.setIfInBounds_toArray, List.set_cons_zero, List.set_cons_succ]
        refine wpAnyH_take (i := 1) (oi := ⟨_, _, _, _, _, _⟩) (v := ?_) rfl (by kernel_rfl) (by kernel_rfl) (by kernel_rfl) (fun _ _ _ h => h) (Or.inl ⟨by rfl, ?_⟩) (by assumption) ?_
        rotate_left 1
        · intro W' hSw
          obtain ⟨hS1, hS2, hS3⟩ := hSw
          go_simp
          try with_reducible rfl
        try simp only [Act.put, List.setIfInBounds_toArray, List.set_cons_zero, List.set_cons_succ]
        refine wpAnyH_take (i := 2) (oi := ⟨_, _, _, _, _, _⟩) (v := ?_) rfl (by kernel_rfl) (by kernel_rfl) (by kernel_rfl) (fun _ _ _ h => h) (Or.inl ⟨by rfl, ?_⟩) (by assumption) ?_
        rotate_left 1
        · intro W' hSw
          obtain ⟨hS1, hS2, hS3⟩ := hSw
          go_simp
          try with_reducible rfl
        try simp only [Act.put, List.setIfInBounds_toArray, List.set_cons_zero, List.set_cons_succ]
        refine wpAnyH_take (i := 3) (oi := ⟨_, _, _, _, _, _⟩) (v := ?_) rfl (by kernel_rfl) (by kernel_rfl) (by kernel_rfl) (fun _ _ _ h => h) (Or.inl ⟨by rfl, ?_⟩) (by assumption) ?_
        rotate_left 1
        · intro W' hSw
          obtain ⟨hS1, hS2, hS3⟩ := hSw
          go_simp
          try with_reducible rfl
        try simp only [Act.put, List.setIfInBounds_toArray, List.set_cons_zero, List.set_cons_succ]
        refine wpAnyH_take (i := 4) (oi := ⟨_, _, _, _, _, _⟩) (v := ?_) rfl (by kernel_rfl) (by kernel_rfl) (by kernel_rfl) (fun _ _ _ h => h) (Or.inl ⟨by rfl, ?_⟩) (by assumption) ?_
        rotate_left 1
        · intro W' hSw
          obtain ⟨hS1, hS2, hS3⟩ := hSw
          go_simp
          try with_reducible rfl
        try simp only [Act.put, List.setIfInBounds_toArray, List.set_cons_zero, List.set_cons_succ]
        refine wpAnyH_take (i := 5) (oi := ⟨_, _, _, _, _, _⟩) (v := ?_) rfl (by kernel_rfl) (by kernel_rfl) (by kernel_rfl) (fun _ _ _ h => h) (Or.inl ⟨by rfl, ?_⟩) (by assumption) ?_
        rotate_left 1
        · intro W' hSw
          obtain ⟨hS1, hS2, hS3⟩ := hSw
          go_simp
          try with_reducible rfl
        try simp only [Act.put, List.setIfInBounds_toArray, List.set_cons_zero, List.set_cons_succ]
        refine wpAnyH_take (i := 6) (oi := ⟨_, _, _, _, _, _⟩) (v := ?_) rfl (by kernel_rfl) (by kernel_rfl) (by kernel_rfl) (fun _ _ _ h => h) (Or.inl ⟨by rfl, ?_⟩) (by assumption) ?_
        rotate_left 1
        · intro W' hSw
          obtain ⟨hS1, hS2, hS3⟩ := hSw
          go_simp
          try with_reducible rfl
        try simp only [Act.put, List.setIfInBounds_toArray, List.set_cons_zero, List.set_cons_succ]
        refine wpAnyH_take (i := 7) (oi := ⟨_, _, _, _, _, _⟩) (v := ?_) rfl (by kernel_rfl) (by kernel_rfl) (by kernel_rfl) (fun _ _ _ h => h) (Or.inl ⟨by rfl, ?_⟩) (by assumption) ?_
        rotate_left 1
        · intro W' hSw
          obtain ⟨hS1, hS2, hS3⟩ := hSw
          go_simp
          try with_reducible rfl
        try simp only [Act.put, List.setIfInBounds_toArray, List.set_cons_zero, List.set_cons_succ]
        refine wpAnyH_take (i := 8) (oi := ⟨_, _, _, _, _, _⟩) (v := ?_) rfl (by kernel_rfl) (by kernel_rfl) (by kernel_rfl) (fun _ _ _ h => h) (Or.inl ⟨by rfl, ?_⟩) (by assumption) ?_
        rotate_left 1
        · intro W' hSw
          obtain ⟨hS1, hS2, hS3⟩ := hSw
          go_simp
          try with_reducible rfl
        try simp only [Act.put, List.setIfInBounds_toArray, List.set_cons_zero, List.set_cons_succ]
        refine wpAnyH_take (i := 9) (oi := ⟨_, _, _, _, _, _⟩) (v := ?_) rfl (by kernel_rfl) (by kernel_rfl) (by kernel_rfl) (fun _ _ _ h => h) (Or.inl ⟨by rfl, ?_⟩) (by assumption) ?_
        rotate_left 1
        · intro W' hSw
          obtain ⟨hS1, hS2, hS3⟩ := hSw
          go_simp
          try with_reducible rfl
        try simp only [Act.put, List.setIfInBounds_toArray, List.set_cons_zero, List.set_cons_succ]
        refine wpAnyH_take (i := 10) (oi := ⟨_, _, _, _, _, _⟩) (v := ?_) rfl (by kernel_rfl) (by kernel_rfl) (by kernel_rfl) (fun _ _ _ h => h) (Or.inl ⟨by rfl, ?_⟩) (by assumption) ?_
        rotate_left 1
        · intro W' hSw
          obtain ⟨hS1, hS2, hS3⟩ := hSw
          go_simp
          try with_reducible rfl
        try simp only [Act.put, List.setIfInBounds_toArray, List.set_cons_zero, List.set_cons_succ]
        refine wpAnyH_done (by kernel_rfl) ?_ _
        go_wp2_with (at_builtin; refine wpList_append_run rfl _ _ 257 rfl _ _ _ _ rfl rfl hrun ?_)
        refine ⟨rfl, rfl, ⟨rfl, rfl, i + 1, a', m + 1, c', by rw [← HLL.out]; omega, rfl, ?_, HI'⟩, ?_⟩
        · show Value.int .i64 _ = _
          go_num
        · show ll - (intOf (Value.int .i64 _)).toNat < ll - (intOf (F 6)).toNat
          rw [H6.out]
          simp [intOf]; omega
end Go.Proofs.Qxb6500787aGreat
