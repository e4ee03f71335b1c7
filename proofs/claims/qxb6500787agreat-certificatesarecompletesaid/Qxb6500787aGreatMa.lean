import Derived.Test.Qxb6500787aGreatYa

import Derived.StillTailTactics
import Derived.Deep.QuietTactic
import Derived.BigQuiet
import Derived.Deep.RegionHeld
import Derived.Deep.CutRange
import Derived.Laws.ResultCell
import Derived.Laws.Rows
import Derived.DeepKeys
import Derived.DataBytes
import Derived.Laws.StructEq
import Derived.Laws.AppendOwn
import Derived.Laws.MakeOwn
import Derived.Lib.AppendStr
set_option linter.unusedSimpArgs false
set_option linter.unusedVariables false
namespace Go.Proofs.Qxb6500787aGreat
open Go.RowKit Go.Blk
attribute [local go_sem ↓] execOp_load execOp_store execOp_alloc
attribute [local go_sem] Tryz.ld26 Tryz.st26 Tryz.ld27 Tryz.st27 Tryz.ld28 Tryz.st28 Tryz.ld3 Tryz.st3 Tryz.ld29 Tryz.st29 Tryz.ld44 Tryz.st44 Tryz.ld4 Tryz.st4 Tryz.ld50 Tryz.st50 Tryz.ld32 Tryz.st32 Tryz.ld49 Tryz.st49 Tryz.ld68 Tryz.st68 Tryz.ld9 Tryz.st9 Tryz.ld40 Tryz.st40 Tryz.ld138 Tryz.st138 Tryz.ld139 Tryz.st139 Tryz.ld146 Tryz.st146 Tryz.ld183 Tryz.st183 Tryz.ld184 Tryz.st184 Tryz.ld192 Tryz.st192 Tryz.ld195 Tryz.st195 Tryz.ld217 Tryz.st217 Tryz.ld159 Tryz.st159 Tryz.ld142 Tryz.st142 Tryz.ld2 Tryz.st2 Tryz.ld5 Tryz.st5 Tryz.ld12 Tryz.st12 Tryz.ld21 Tryz.st21 Tryz.ld22 Tryz.st22 Tryz.ld24 Tryz.st24 Tryz.ld58 Tryz.st58 Tryz.ld97 Tryz.st97 Tryz.ld101 Tryz.st101 Tryz.ld116 Tryz.st116 Tryz.ld121 Tryz.st121 Tryz.ld135 Tryz.st135 Tryz.ld136 Tryz.st136 Tryz.ld143 Tryz.st143 Tryz.ld148 Tryz.st148 Tryz.ld154 Tryz.st154 Tryz.ld173 Tryz.st173 Tryz.ld187 Tryz.st187 Tryz.ld222 Tryz.st222 Tryz.ld241 Tryz.st241 Tryz.ld248 Tryz.st248 Tryz.ld268 Tryz.st268 Tryz.ld272 Tryz.st272 Tryz.ld153 Tryz.st153 Tryz.ld255 Tryz.st255 Tryz.ld256 Tryz.st256 Tryz.ld129 Tryz.st129 Tryz.ld152 Tryz.st152 Tryz.ld31 Tryz.st31 Tryz.ld46 Tryz.st46 Tryz.ld52 Tryz.st52 Tryz.ld54 Tryz.st54 Tryz.ld60 Tryz.st60 Tryz.ld70 Tryz.st70 Tryz.ld74 Tryz.st74 Tryz.ld93 Tryz.st93 Tryz.ld141 Tryz.st141 Tryz.ld151 Tryz.st151 Tryz.ld170 Tryz.st170 Tryz.ld186 Tryz.st186 Tryz.ld189 Tryz.st189 Tryz.ld194 Tryz.st194 Tryz.ld197 Tryz.st197 Tryz.ld219 Tryz.st219 Tryz.ld224 Tryz.st224 Tryz.ld230 Tryz.st230 Tryz.ld235 Tryz.st235 Tryz.ld243 Tryz.st243 Tryz.ld247 Tryz.st247 Tryz.ld252 Tryz.st252 Tryz.ld258 Tryz.st258 Tryz.al153 Tryz.al255 Tryz.al256 Tryz.al129 Tryz.al152 Tryz.al31 Tryz.al46 Tryz.al52 Tryz.al54 Tryz.al60 Tryz.al70 Tryz.al74 Tryz.al93 Tryz.al141 Tryz.al151 Tryz.al170 Tryz.al186 Tryz.al189 Tryz.al194 Tryz.al197 Tryz.al219 Tryz.al224 Tryz.al230 Tryz.al235 Tryz.al243 Tryz.al247 Tryz.al252 Tryz.al258
attribute [local go_sem] Request.length_enc Request.ok_enc Request.all_get Request.all_set Request.kind_get Request.kind_set Request.blob_get Request.blob_set Request.items_get Request.items_set Request.pred_get Request.pred_set Request.slots_get Request.slots_set Trace.length_enc Trace.ok_enc Trace.all_get Trace.all_set Trace.op_get Trace.op_set Trace.calls_get Trace.calls_set Item.length_enc Item.ok_enc Item.all_get Item.all_set Item.del_get Item.del_set Item.pred_get Item.pred_set Item.args_get Item.args_set Reply.length_enc Reply.ok_enc Reply.all_get Reply.all_set Reply.code_get Reply.code_set Reply.kind_get Reply.kind_set Reply.index_get Reply.index_set Reply.yes_get Reply.yes_set Reply.preds_get Reply.preds_set Reply.rules_get Reply.rules_set Reply.arity_get Reply.arity_set Reply.rows_get Reply.rows_set Reply.fact_get Reply.fact_set Reply.fact_del_get Reply.fact_del_set Reply.fact_pred_get Reply.fact_pred_set Reply.fact_args_get Reply.fact_args_set GEntry.length_enc GEntry.ok_enc GEntry.all_get GEntry.all_set GEntry.seq_get GEntry.seq_set GEntry.kind_get GEntry.kind_set GEntry.code_get GEntry.code_set GOp.length_enc GOp.ok_enc GOp.all_get GOp.all_set GOp.kind_get GOp.kind_set GOp.raw_get GOp.raw_set Reader.length_enc Reader.ok_enc Reader.all_get Reader.all_set Reader.buf_get Reader.buf_set Reader.at__get Reader.at__set Slot.length_enc Slot.ok_enc Slot.all_get Slot.all_set Slot.bound_get Slot.bound_set Slot.name_get Slot.name_set Session.length_enc Session.ok_enc Session.all_get Session.all_set Session.svc_get Session.svc_set Session.buf_get Session.buf_set Session.closed_get Session.closed_set GProgram.length_enc GProgram.ok_enc GProgram.all_get GProgram.all_set GProgram.pool_get GProgram.pool_set GProgram.preds_get GProgram.preds_set GProgram.rules_get GProgram.rules_set GProgram.strata_get GProgram.strata_set PredInfo.length_enc PredInfo.ok_enc PredInfo.all_get PredInfo.all_set PredInfo.arity_get PredInfo.arity_set PredInfo.base_get PredInfo.base_set PredInfo.stratum_get PredInfo.stratum_set Change.length_enc Change.ok_enc Change.all_get Change.all_set Change.del_get Change.del_set Change.pred_get Change.pred_set Change.t_get Change.t_set Store.length_enc Store.ok_enc Store.all_get Store.all_set Store.names_get Store.names_set Store.arity_get Store.arity_set Store.rows_get Store.rows_set Src.length_enc Src.ok_enc Src.all_get Src.all_set Src.b_get Src.b_set Src.at__get Src.at__set Atom.length_enc Atom.ok_enc Atom.all_get Atom.all_set Atom.pred_get Atom.pred_set Atom.args_get Atom.args_set GRule.length_enc GRule.ok_enc GRule.all_get GRule.all_set GRule.head_get GRule.head_set GRule.body_get GRule.body_set GRule.head_pred_get GRule.head_pred_set GRule.head_args_get GRule.head_args_set Cert.length_enc Cert.ok_enc Cert.all_get Cert.all_set Cert.names_get Cert.names_set Cert.nodes_get Cert.nodes_set Fact.length_enc Fact.ok_enc Fact.all_get Fact.all_set Fact.pred_get Fact.pred_set Fact.t_get Fact.t_set Literal.length_enc Literal.ok_enc Literal.all_get Literal.all_set Literal.neg_get Literal.neg_set Literal.atom_get Literal.atom_set Literal.atom_pred_get Literal.atom_pred_set Literal.atom_args_get Literal.atom_args_set Engine.length_enc Engine.ok_enc Engine.all_get Engine.all_set Engine.prog_get Engine.prog_set Engine.st_get Engine.st_set SrcCertm.length_enc SrcCertm.ok_enc SrcCertm.all_get SrcCertm.all_set SrcCertm.b_get SrcCertm.b_set SrcCertm.at__get SrcCertm.at__set GNode.length_enc GNode.ok_enc GNode.all_get GNode.all_set GNode.rule_get GNode.rule_set GNode.pred_get GNode.pred_set GNode.vals_get GNode.vals_set GNode.refs_get GNode.refs_set Term.length_enc Term.ok_enc Term.all_get Term.all_set Term.var_get Term.var_set Term.n_get Term.n_set Env.length_enc Env.ok_enc Env.all_get Env.all_set Env.val_get Env.val_set Env.set_get Env.set_set
attribute [local go_sem] size_put size_ext blk_put free_put blk_alloc free_alloc blk_drew free_drew blk_ext free_ext lookOr_some putOr_some segAt_some cellAt_some storeIn_some put_put put_alloc_new length_arr ok_arr_u8 ok_arr_u32 ok_arr_u64 ok_arr_i64 ok_arr_sl cellsV_agg cellsV_int cellsV_bool cellsV_string cellsV_pointer cellsV_slice cellsV_sl ok_int ok_bool ok_string ok_pointer ok_slice ok_sl toList_arr seg_arr set_arr nth_splice nth_splice0 seg_splice seg_splice0 splice_splice splice_splice0 length_splice_if
attribute [local go_sem ↓] execOp_box
attribute [local go_sem] box_run nth_arr_u8 put_arr_u8 blk_drewN free_drewN put_drewN blk_raw free_raw
theorem Tryz.zl75 (w : World) (b o : Nat) : (loadOp 75 (.pointer (some ⟨b, o, none⟩))).run Tryz.prog w = lookOr (cellAt (blk w b) o) w (rawLoad Tryz.prog 75 ⟨b, o, none⟩ w) := load_one Tryz.underlying75 rfl w b o
theorem Tryz.zs75 (w : World) (b o : Nat) (v : Value) : (storeOp 75 (.pointer (some ⟨b, o, none⟩)) v).run Tryz.prog w = putOr (storeIn w (blk w b) b o 1 v) (rawStore Tryz.prog 75 ⟨b, o, none⟩ v w) := store_any (by kernel_rfl) w b o v
theorem Tryz.zl52 (w : World) (b o : Nat) : (loadOp 52 (.pointer (some ⟨b, o, none⟩))).run Tryz.prog w = lookOr (cellAt (blk w b) o) w (rawLoad Tryz.prog 52 ⟨b, o, none⟩ w) := load_one Tryz.underlying52 rfl w b o
theorem Tryz.zs52 (w : World) (b o : Nat) (v : Value) : (storeOp 52 (.pointer (some ⟨b, o, none⟩)) v).run Tryz.prog w = putOr (storeIn w (blk w b) b o 1 v) (rawStore Tryz.prog 52 ⟨b, o, none⟩ v w) := store_any (by kernel_rfl) w b o v
theorem Tryz.zl53 (w : World) (b o : Nat) : (loadOp 53 (.pointer (some ⟨b, o, none⟩))).run Tryz.prog w = lookOr (cellAt (blk w b) o) w (rawLoad Tryz.prog 53 ⟨b, o, none⟩ w) := load_one Tryz.underlying53 rfl w b o
theorem Tryz.zs53 (w : World) (b o : Nat) (v : Value) : (storeOp 53 (.pointer (some ⟨b, o, none⟩)) v).run Tryz.prog w = putOr (storeIn w (blk w b) b o 1 v) (rawStore Tryz.prog 53 ⟨b, o, none⟩ v w) := store_any (by kernel_rfl) w b o v
attribute [local go_sem] Tryz.zl75 Tryz.zs75 Tryz.zl52 Tryz.zs52 Tryz.zl53 Tryz.zs53
/-- A row as the model has it: the names of its constants. -/
abbrev NRow := List (List UInt8)
/-- A slice of slices in memory. -/
def Nest {β : Type} (P : World → Option Addr → Nat → β → Prop) (W : World) (a : Option Addr) (n : Nat) (L : List β) : Prop := ∃ K : List Sl, Rw encR 1 W a n K ∧ L.length = n ∧ ∀ (i : Nat) (s : Sl) (x : β), K[i]? = some s → L[i]? = some x → P W s.a s.len x
theorem Nest.sub {β : Type} {P : World → Option Addr → Nat → β → Prop} (hP : ∀ {W W' : World} {a : Option Addr} {n : Nat} {x : β}, P W a n x → Sub W W' → P W' a n x) {W W' : World} {a : Option Addr} {n : Nat} {L : List β} (h : Nest P W a n L) (hs : Sub W W') : Nest P W' a n L := by
  obtain ⟨K, h1, h2, h3⟩ := h
  exact ⟨K, h1.sub hs, h2, fun i s x e1 e2 => hP (h3 i s x e1 e2) hs⟩
theorem Nest.at {β : Type} {P : World → Option Addr → Nat → β → Prop} {W : World} {a : Option Addr} {n : Nat} {L : List β} (h : Nest P W a n L) {i : Nat} {x : β} (hx : L[i]? = some x) : ∃ (b : Nat) (C : List Value) (s : Sl), a = some ⟨b, 0, none⟩ ∧ blk W b = some C ∧ i < C.length ∧ nth C i = some (.slice s.a s.len s.cap) ∧ P W s.a s.len x := by
  obtain ⟨K, h1, h2, h3⟩ := h
  have hi : i < n := by rw [← h2]; exact (List.getElem?_eq_some_iff.1 hx).1
  have hs := List.getElem?_eq_getElem (l := K) (i := i) (by rw [h1.1]; exact hi)
  obtain ⟨b, C, e1, e2, e3, e4, e5⟩ := rw_cell h1 hs (show encR _ = [Sl.val _] from rfl)
  exact ⟨b, C, _, e1, e2, e3, e5, h3 i _ _ hs hx⟩
theorem Nest.nil {β : Type} {P : World → Option Addr → Nat → β → Prop} {W : World} {a : Option Addr} : Nest P W a 0 ([] : List β) := ⟨[], ⟨rfl, fun i x h => by cases h⟩, rfl, fun i s x h => by cases h⟩
/-- Rows of names in memory. -/
def RowsAt (W : World) (a : Option Addr) (n : Nat) (L : List NRow) : Prop := Nest (Rw encS 1) W a n L
theorem RowsAt.sub {W W' : World} {a : Option Addr} {n : Nat} {L : List NRow} (h : RowsAt W a n L) (hs : Sub W W') : RowsAt W' a n L := Nest.sub (fun h hs => h.sub hs) h hs
/-- Lists of rows in memory, one for each predicate. -/
def FactsAt (W : World) (a : Option Addr) (n : Nat) (F : List (List NRow)) : Prop := Nest RowsAt W a n F
theorem FactsAt.sub {W W' : World} {a : Option Addr} {n : Nat} {L : List (List NRow)} (h : FactsAt W a n L) (hs : Sub W W') : FactsAt W' a n L := Nest.sub (fun h hs => h.sub hs) h hs
theorem sub_drewN (W : World) (k : Nat) : Sub W (W.drewN k) := fun b C h => by rw [blk_drewN]; exact h
def zSmI (W : World) (a a' : Option Addr) (n c c' : Nat) (L L' : NRow) (f : Nat → Value) (V : World) : Prop := f 0 = .slice a n c ∧ f 1 = .slice a' n c' ∧ Hid (∃ k, V = W.drewN k) ∧ ∃ i : Nat, i ≤ n ∧ f 5 = .int .i64 (i : Nat) ∧ Hid (∀ j, j < i → L[j]? = L'[j]?)
set_option maxRecDepth 100000 in
theorem zframe26s (f : Nat → Value) : frameN 26 f = #[f 0, f 1, f 2, f 3, f 4, f 5, f 6, f 7, f 8, f 9, f 10, f 11, f 12, f 13, f 14, f 15, f 16, f 17, f 18, f 19, f 20, f 21, f 22, f 23, f 24, f 25] := by kernel_rfl
set_option maxRecDepth 20000 in
set_option maxHeartbeats 1000000 in
/-- Two rows compared. -/
theorem same_any (W : World) (a a' : Option Addr) (n n' c c' : Nat) (hn : n ≤ 1000000000000) (L L' : NRow) (hX : Rw encS 1 W a n L) (hX' : Rw encS 1 W a' n' L') : Calls Tryz.prog 35 #[.slice a n c, .slice a' n' c'] W fun e W' => e = .returned (.bool (decide (L = L'))) ∧ ∃ k, W' = W.drewN k := by
  obtain ⟨Q, hQ⟩ : ∃ Q : Ending → World → Prop, Q = fun e W' => e = .returned (.bool (decide (L = L'))) ∧ ∃ k, W' = W.drewN k := ⟨_, rfl⟩
  rw [← hQ]
  have HQ := hid_of hQ
  clear hQ
  have HX := hid_of hX
  have HX' := hid_of hX'
  clear hX hX'
  by_cases hnn : n = n'
  rotate_left 1
  · have nb : ((n : Int) != (n' : Int)) = true := by simp; omega
    have HP : Hid (Q (.returned (.bool false)) W) := by
      show Q _ _
      rw [HQ.out]
      refine ⟨?_, 0, rfl⟩
      rw [decide_eq_false (fun e => hnn (by rw [← HX.out.1, ← HX'.out.1, e]))]
    go_enter Tryz.func35, Tryz.ntmps35
    go_wp2_with fail
    try go_ret
    exact HP.out
  subst hnn
  have nb : ((n : Int) != (n : Int)) = false := by simp
  go_enter Tryz.func35, Tryz.ntmps35
  go_wp2_with fail
  refine wp_loop_f 26 (zSmI W a a' n c c' L L') (fun f _ => n - (intOf (f 5)).toNat) rfl ⟨rfl, rfl, ⟨0, rfl⟩, 0, by omega, rfl, fun j hj => by omega⟩ ?_
  intro F V hrel
  obtain ⟨f0, f1, HV, i, hi, f5, HI⟩ := hrel
  have H5 := hid_of f5
  rw [zframe26s, f0, f1, f5]
  clear f0 f1 f5
  by_cases hin : i < n
  rotate_left 1
  · have hin' : ¬ (i : Int) < (n : Int) := by omega
    have HP : Hid (Q (.returned (.bool true)) V) := by
      show Q _ _
      rw [HQ.out]
      refine ⟨?_, HV.out⟩
      rw [decide_eq_true]
      apply List.ext_getElem?
      intro j
      by_cases hj : j < i
      · exact HI.out j hj
      · rw [List.getElem?_eq_none (by rw [HX.out.1]; omega), List.getElem?_eq_none (by rw [HX'.out.1]; omega)]
    clear HI
    go_wp2_with fail
    try go_ret
    exact HP.out
  have hin' : (i : Int) < (n : Int) := by omega
  have i0 : (0 : Int) ≤ (i : Int) := by omega
  have i2 : ((i : Int)).toNat = i := by omega
  obtain ⟨x, hx⟩ : ∃ x, L[i]? = some x := ⟨_, List.getElem?_eq_getElem (by rw [HX.out.1]; exact hin)⟩
  obtain ⟨x', hx'⟩ : ∃ x, L'[i]? = some x := ⟨_, List.getElem?_eq_getElem (by rw [HX'.out.1]; exact hin)⟩
  obtain ⟨b, C, rfl, g1, g2, g3⟩ := str_at HX.out hx
  obtain ⟨b', C', rfl, g1', g2', g3'⟩ := str_at HX'.out hx'
  have hCV : blk V b = some C := by obtain ⟨k, hk⟩ := HV.out; rw [hk]; exact g1
  have hCV' : blk V b' = some C' := by obtain ⟨k, hk⟩ := HV.out; rw [hk]; exact g1'
  by_cases hxx : x = x'
  · subst hxx
    obtain ⟨y, hy⟩ : ∃ y : ByteArray, y = ⟨x.toArray⟩ := ⟨_, rfl⟩
    rw [← hy] at g3 g3'
    have HI' : Hid (∀ j, j < i + 1 → L[j]? = L'[j]?) := fun j hj => by
      by_cases e : j = i
      · rw [e, hx, hx']
      · exact HI.out j (by omega)
    clear g1 g1' hx hx' hy HI
    repeat go_step
    go_quiet (fail)
    go_wp2_with fail
    refine ⟨rfl, rfl, ⟨rfl, rfl, ?_, i + 1, by omega, ?_, HI'⟩, ?_⟩
    · obtain ⟨k, hk⟩ := HV.out
      exact ⟨_, by rw [hk, World.drewN_drewN]⟩
    · show Value.int .i64 _ = _
      go_num
    · show n - (intOf (Value.int .i64 _)).toNat < n - (intOf (F 5)).toNat
      rw [H5.out]
      simp [intOf]; omega
  · have hne := str_ne hxx
    have hd : (x == x') = false := str_beq hxx
    have hd2 : (x != x') = true := by unfold bne; rw [hd]; rfl
    have HP : ∀ k, Hid (Q (.returned (.bool false)) (V.drewN k)) := fun k => by
      show Q _ _
      rw [HQ.out]
      obtain ⟨k0, hk⟩ := HV.out
      refine ⟨?_, _, by rw [hk, World.drewN_drewN]⟩
      rw [decide_eq_false (fun e => hxx (by rw [e, hx'] at hx; exact (Option.some.inj hx).symm))]
    clear g1 g1' hx hx' HI hxx
    repeat go_step
    go_quiet (fail)
    go_wp2_with fail
    try go_ret
    exact (HP _).out
def zMbI (W : World) (a a' : Option Addr) (n c n' c' : Nat) (Ls : List NRow) (r : NRow) (f : Nat → Value) (V : World) : Prop := f 0 = .slice a n c ∧ f 1 = .slice a' n' c' ∧ Hid (∃ k, V = W.drewN k) ∧ ∃ i : Nat, i ≤ n ∧ f 5 = .int .i64 (i : Nat) ∧ Hid (∀ j x, j < i → Ls[j]? = some x → x ≠ r)
set_option maxRecDepth 100000 in
theorem zframe18n (f : Nat → Value) : frameN 18 f = #[f 0, f 1, f 2, f 3, f 4, f 5, f 6, f 7, f 8, f 9, f 10, f 11, f 12, f 13, f 14, f 15, f 16, f 17] := by kernel_rfl
set_option maxRecDepth 20000 in
set_option maxHeartbeats 1000000 in
/-- A row looked for. -/
theorem member_names (W : World) (a a' : Option Addr) (n n' c c' : Nat) (hn : n ≤ 1000000000000) (Ls : List NRow) (r : NRow) (hX : RowsAt W a n Ls) (hr : ∀ x ∈ Ls, x.length ≤ 1000000000000) (hX' : Rw encS 1 W a' n' r) : Calls Tryz.prog 32 #[.slice a n c, .slice a' n' c'] W fun e W' => e = .returned (.bool (decide (r ∈ Ls))) ∧ ∃ k, W' = W.drewN k := by
  obtain ⟨Q, hQ⟩ : ∃ Q : Ending → World → Prop, Q = fun e W' => e = .returned (.bool (decide (r ∈ Ls))) ∧ ∃ k, W' = W.drewN k := ⟨_, rfl⟩
  rw [← hQ]
  have HQ := hid_of hQ
  have HX := hid_of hX
  have HX' := hid_of hX'
  have HR := hid_of hr
  have HLN : Hid (Ls.length = n) := hX.choose_spec.2.1
  clear hQ hX hX' hr
  go_enter Tryz.func32, Tryz.ntmps32
  go_wp2_with fail
  refine wp_loop_f 18 (zMbI W a a' n c n' c' Ls r) (fun f _ => n - (intOf (f 5)).toNat) rfl ⟨rfl, rfl, ⟨0, rfl⟩, 0, by omega, rfl, fun j x hj => by omega⟩ ?_
  intro F V hrel
  obtain ⟨f0, f1, HV, i, hi, f5, HI⟩ := hrel
  have H5 := hid_of f5
  rw [zframe18n, f0, f1, f5]
  clear f0 f1 f5
  by_cases hin : i < n
  rotate_left 1
  · have hin' : ¬ (i : Int) < (n : Int) := by omega
    have HP : Hid (Q (.returned (.bool false)) V) := by
      show Q _ _
      rw [HQ.out]
      refine ⟨?_, HV.out⟩
      rw [decide_eq_false]
      intro hm
      obtain ⟨j, hj⟩ := List.mem_iff_getElem?.1 hm
      exact HI.out j r (by have := (List.getElem?_eq_some_iff.1 hj).1; have := HLN.out; omega) hj rfl
    clear HI
    go_wp2_with fail
    try go_ret
    exact HP.out
  have hin' : (i : Int) < (n : Int) := by omega
  have i0 : (0 : Int) ≤ (i : Int) := by omega
  have i2 : ((i : Int)).toNat = i := by omega
  obtain ⟨x, hx⟩ : ∃ x, Ls[i]? = some x := ⟨_, List.getElem?_eq_getElem (by rw [HLN.out]; exact hin)⟩
  obtain ⟨b, C, s, rfl, g1, g2, g3, g4⟩ := HX.out.at hx
  obtain ⟨sa, sn, sc⟩ := s
  dsimp only at g3 g4
  have hCV : blk V b = some C := by obtain ⟨k, hk⟩ := HV.out; rw [hk]; exact g1
  have hsub : Sub W V := by obtain ⟨k, hk⟩ := HV.out; rw [hk]; exact sub_drewN _ _
  have hxl := HR.out x (List.mem_of_getElem? hx)
  have hsm := same_any V sa a' sn n' sc c' (by rw [← g4.1]; exact hxl) x r (g4.sub hsub) (HX'.out.sub hsub)
  by_cases hxr : x = r
  · have HP : ∀ k, Hid (Q (.returned (.bool true)) (V.drewN k)) := fun k => by
      show Q _ _
      rw [HQ.out]
      obtain ⟨k0, hk⟩ := HV.out
      refine ⟨?_, _, by rw [hk, World.drewN_drewN]⟩
      rw [decide_eq_true (by rw [← hxr]; exact List.mem_of_getElem? hx)]
    rw [decide_eq_true hxr] at hsm
    clear g1 g4 hx HI hxl hsub hxr
    go_wp2_with fail
    refine hsm.mono ?_
    rintro e V1 ⟨rfl, k1, rfl⟩
    dsimp only
    clear hsm
    go_wp2_with fail
    try go_ret
    exact (HP _).out
  · rw [decide_eq_false hxr] at hsm
    have HI' : Hid (∀ j x, j < i + 1 → Ls[j]? = some x → x ≠ r) := fun j y hj hy => by
      by_cases e : j = i
      · rw [e, hx] at hy
        rw [← Option.some.inj hy]; exact hxr
      · exact HI.out j y (by omega) hy
    clear g1 g4 hx HI hxl hsub hxr
    go_wp2_with fail
    refine hsm.mono ?_
    rintro e V1 ⟨rfl, k1, rfl⟩
    dsimp only
    clear hsm
    go_wp2_with fail
    refine ⟨rfl, rfl, ⟨rfl, rfl, ?_, i + 1, by omega, ?_, HI'⟩, ?_⟩
    · obtain ⟨k, hk⟩ := HV.out
      exact ⟨_, by rw [hk, World.drewN_drewN]⟩
    · show Value.int .i64 _ = _
      go_num
    · show n - (intOf (Value.int .i64 _)).toNat < n - (intOf (F 5)).toNat
      rw [H5.out]
      simp [intOf]; omega
/-- One of the lists is too long. -/
def overN (F : List (List NRow)) : Bool := F.any fun L => decide (512 < L.length)
def zOvI (W : World) (a : Option Addr) (n c : Nat) (F : List (List NRow)) (f : Nat → Value) (V : World) : Prop := f 0 = .slice a n c ∧ Hid (V = W) ∧ ∃ i : Nat, i ≤ n ∧ f 3 = .int .i64 (i : Nat) ∧ Hid (∀ j x, j < i → F[j]? = some x → ¬ 512 < x.length)
set_option maxRecDepth 100000 in
theorem zframe16o (f : Nat → Value) : frameN 16 f = #[f 0, f 1, f 2, f 3, f 4, f 5, f 6, f 7, f 8, f 9, f 10, f 11, f 12, f 13, f 14, f 15] := by kernel_rfl
set_option maxRecDepth 20000 in
set_option maxHeartbeats 1000000 in
theorem overN_any (W : World) (a : Option Addr) (n c : Nat) (hn : n ≤ 1000000000000) (F : List (List NRow)) (hX : FactsAt W a n F) : Calls Tryz.prog 26 #[.slice a n c] W fun e W' => e = .returned (.bool (overN F)) ∧ W' = W := by
  obtain ⟨Q, hQ⟩ : ∃ Q : Ending → World → Prop, Q = fun e W' => e = .returned (.bool (overN F)) ∧ W' = W := ⟨_, rfl⟩
  rw [← hQ]
  have HQ := hid_of hQ
  have HX := hid_of hX
  have HLN : Hid (F.length = n) := hX.choose_spec.2.1
  clear hQ hX
  go_enter Tryz.func26, Tryz.ntmps26
  go_wp2_with fail
  refine wp_loop_f 16 (zOvI W a n c F) (fun f _ => n - (intOf (f 3)).toNat) rfl ⟨rfl, rfl, 0, by omega, rfl, fun j x hj => by omega⟩ ?_
  intro G V hrel
  obtain ⟨f0, HV, i, hi, f3, HI⟩ := hrel
  have H3 := hid_of f3
  rw [zframe16o, f0, f3]
  clear f0 f3
  obtain rfl : V = W := HV.out
  by_cases hin : i < n
  rotate_left 1
  · have hin' : ¬ (i : Int) < (n : Int) := by omega
    have HP : Hid (Q (.returned (.bool false)) V) := by
      show Q _ _
      rw [HQ.out]
      refine ⟨?_, rfl⟩
      have e : overN F = false := by
        unfold overN
        rw [List.any_eq_false]
        intro L hL
        obtain ⟨j, hj⟩ := List.mem_iff_getElem?.1 hL
        rw [decide_eq_true_eq]
        exact HI.out j L (by have := (List.getElem?_eq_some_iff.1 hj).1; have := HLN.out; omega) hj
      rw [e]
    clear HI
    go_wp2_with fail
    try go_ret
    exact HP.out
  have hin' : (i : Int) < (n : Int) := by omega
  have i0 : (0 : Int) ≤ (i : Int) := by omega
  have i2 : ((i : Int)).toNat = i := by omega
  obtain ⟨x, hx⟩ : ∃ x, F[i]? = some x := ⟨_, List.getElem?_eq_getElem (by rw [HLN.out]; exact hin)⟩
  obtain ⟨b, C, s, rfl, g1, g2, g3, g4⟩ := HX.out.at hx
  obtain ⟨sa, sn, sc⟩ := s
  dsimp only at g3 g4
  have hsn : x.length = sn := g4.choose_spec.2.1
  by_cases hxr : 512 < sn
  · have c1 : (sn : Int) > 512 := by omega
    have c2 : (512 : Int) < (sn : Int) := by omega
    have HP : Hid (Q (.returned (.bool true)) V) := by
      show Q _ _
      rw [HQ.out]
      refine ⟨?_, rfl⟩
      have e : overN F = true := by
        unfold overN
        rw [List.any_eq_true]
        exact ⟨x, List.mem_of_getElem? hx, decide_eq_true (by omega)⟩
      rw [e]
    clear g4 hx HI hsn
    go_wp2_with fail
    try go_ret
    exact HP.out
  · have c1 : ¬ (sn : Int) > 512 := by omega
    have c2 : ¬ (512 : Int) < (sn : Int) := by omega
    have HI' : Hid (∀ j x, j < i + 1 → F[j]? = some x → ¬ 512 < x.length) := fun j y hj hy => by
      by_cases e : j = i
      · rw [e, hx] at hy
        rw [← Option.some.inj hy, hsn]; exact hxr
      · exact HI.out j y (by omega) hy
    clear g4 hx HI hsn
    go_wp2_with fail
    refine ⟨rfl, rfl, ⟨rfl, rfl, i + 1, by omega, ?_, HI'⟩, ?_⟩
    · show Value.int .i64 _ = _
      go_num
    · show n - (intOf (Value.int .i64 _)).toNat < n - (intOf (G 3)).toNat
      rw [H3.out]
      simp [intOf]; omega
end Go.Proofs.Qxb6500787aGreat
