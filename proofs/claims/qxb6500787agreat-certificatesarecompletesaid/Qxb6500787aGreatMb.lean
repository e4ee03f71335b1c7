import Derived.Test.Qxb6500787aGreatMa

import Derived.StillTailTactics
import Derived.Deep.QuietTactic
import Derived.BigQuiet
import Derived.Deep.RegionHeld
import Derived.Deep.CutRange
import Derived.Laws.ResultCell
import Derived.Laws.Rows
import Derived.DeepKeys
import Derived.DataBytes
import Derived.Laws.StructEq
import Derived.Laws.AppendOwn
import Derived.Laws.MakeOwn
import Derived.Lib.AppendStr
set_option linter.unusedSimpArgs false
set_option linter.unusedVariables false
namespace Go.Proofs.Qxb6500787aGreat
open Go.RowKit Go.Blk
attribute [local go_sem ↓] execOp_load execOp_store execOp_alloc
attribute [local go_sem] Tryz.ld26 Tryz.st26 Tryz.ld27 Tryz.st27 Tryz.ld28 Tryz.st28 Tryz.ld3 Tryz.st3 Tryz.ld29 Tryz.st29 Tryz.ld44 Tryz.st44 Tryz.ld4 Tryz.st4 Tryz.ld50 Tryz.st50 Tryz.ld32 Tryz.st32 Tryz.ld49 Tryz.st49 Tryz.ld68 Tryz.st68 Tryz.ld9 Tryz.st9 Tryz.ld40 Tryz.st40 Tryz.ld138 Tryz.st138 Tryz.ld139 Tryz.st139 Tryz.ld146 Tryz.st146 Tryz.ld183 Tryz.st183 Tryz.ld184 Tryz.st184 Tryz.ld192 Tryz.st192 Tryz.ld195 Tryz.st195 Tryz.ld217 Tryz.st217 Tryz.ld159 Tryz.st159 Tryz.ld142 Tryz.st142 Tryz.ld2 Tryz.st2 Tryz.ld5 Tryz.st5 Tryz.ld12 Tryz.st12 Tryz.ld21 Tryz.st21 Tryz.ld22 Tryz.st22 Tryz.ld24 Tryz.st24 Tryz.ld58 Tryz.st58 Tryz.ld97 Tryz.st97 Tryz.ld101 Tryz.st101 Tryz.ld116 Tryz.st116 Tryz.ld121 Tryz.st121 Tryz.ld135 Tryz.st135 Tryz.ld136 Tryz.st136 Tryz.ld143 Tryz.st143 Tryz.ld148 Tryz.st148 Tryz.ld154 Tryz.st154 Tryz.ld173 Tryz.st173 Tryz.ld187 Tryz.st187 Tryz.ld222 Tryz.st222 Tryz.ld241 Tryz.st241 Tryz.ld248 Tryz.st248 Tryz.ld268 Tryz.st268 Tryz.ld272 Tryz.st272 Tryz.ld153 Tryz.st153 Tryz.ld255 Tryz.st255 Tryz.ld256 Tryz.st256 Tryz.ld129 Tryz.st129 Tryz.ld152 Tryz.st152 Tryz.ld31 Tryz.st31 Tryz.ld46 Tryz.st46 Tryz.ld52 Tryz.st52 Tryz.ld54 Tryz.st54 Tryz.ld60 Tryz.st60 Tryz.ld70 Tryz.st70 Tryz.ld74 Tryz.st74 Tryz.ld93 Tryz.st93 Tryz.ld141 Tryz.st141 Tryz.ld151 Tryz.st151 Tryz.ld170 Tryz.st170 Tryz.ld186 Tryz.st186 Tryz.ld189 Tryz.st189 Tryz.ld194 Tryz.st194 Tryz.ld197 Tryz.st197 Tryz.ld219 Tryz.st219 Tryz.ld224 Tryz.st224 Tryz.ld230 Tryz.st230 Tryz.ld235 Tryz.st235 Tryz.ld243 Tryz.st243 Tryz.ld247 Tryz.st247 Tryz.ld252 Tryz.st252 Tryz.ld258 Tryz.st258 Tryz.al153 Tryz.al255 Tryz.al256 Tryz.al129 Tryz.al152 Tryz.al31 Tryz.al46 Tryz.al52 Tryz.al54 Tryz.al60 Tryz.al70 Tryz.al74 Tryz.al93 Tryz.al141 Tryz.al151 Tryz.al170 Tryz.al186 Tryz.al189 Tryz.al194 Tryz.al197 Tryz.al219 Tryz.al224 Tryz.al230 Tryz.al235 Tryz.al243 Tryz.al247 Tryz.al252 Tryz.al258
attribute [local go_sem] Request.length_enc Request.ok_enc Request.all_get Request.all_set Request.kind_get Request.kind_set Request.blob_get Request.blob_set Request.items_get Request.items_set Request.pred_get Request.pred_set Request.slots_get Request.slots_set Trace.length_enc Trace.ok_enc Trace.all_get Trace.all_set Trace.op_get Trace.op_set Trace.calls_get Trace.calls_set Item.length_enc Item.ok_enc Item.all_get Item.all_set Item.del_get Item.del_set Item.pred_get Item.pred_set Item.args_get Item.args_set Reply.length_enc Reply.ok_enc Reply.all_get Reply.all_set Reply.code_get Reply.code_set Reply.kind_get Reply.kind_set Reply.index_get Reply.index_set Reply.yes_get Reply.yes_set Reply.preds_get Reply.preds_set Reply.rules_get Reply.rules_set Reply.arity_get Reply.arity_set Reply.rows_get Reply.rows_set Reply.fact_get Reply.fact_set Reply.fact_del_get Reply.fact_del_set Reply.fact_pred_get Reply.fact_pred_set Reply.fact_args_get Reply.fact_args_set GEntry.length_enc GEntry.ok_enc GEntry.all_get GEntry.all_set GEntry.seq_get GEntry.seq_set GEntry.kind_get GEntry.kind_set GEntry.code_get GEntry.code_set GOp.length_enc GOp.ok_enc GOp.all_get GOp.all_set GOp.kind_get GOp.kind_set GOp.raw_get GOp.raw_set Reader.length_enc Reader.ok_enc Reader.all_get Reader.all_set Reader.buf_get Reader.buf_set Reader.at__get Reader.at__set Slot.length_enc Slot.ok_enc Slot.all_get Slot.all_set Slot.bound_get Slot.bound_set Slot.name_get Slot.name_set Session.length_enc Session.ok_enc Session.all_get Session.all_set Session.svc_get Session.svc_set Session.buf_get Session.buf_set Session.closed_get Session.closed_set GProgram.length_enc GProgram.ok_enc GProgram.all_get GProgram.all_set GProgram.pool_get GProgram.pool_set GProgram.preds_get GProgram.preds_set GProgram.rules_get GProgram.rules_set GProgram.strata_get GProgram.strata_set PredInfo.length_enc PredInfo.ok_enc PredInfo.all_get PredInfo.all_set PredInfo.arity_get PredInfo.arity_set PredInfo.base_get PredInfo.base_set PredInfo.stratum_get PredInfo.stratum_set Change.length_enc Change.ok_enc Change.all_get Change.all_set Change.del_get Change.del_set Change.pred_get Change.pred_set Change.t_get Change.t_set Store.length_enc Store.ok_enc Store.all_get Store.all_set Store.names_get Store.names_set Store.arity_get Store.arity_set Store.rows_get Store.rows_set Src.length_enc Src.ok_enc Src.all_get Src.all_set Src.b_get Src.b_set Src.at__get Src.at__set Atom.length_enc Atom.ok_enc Atom.all_get Atom.all_set Atom.pred_get Atom.pred_set Atom.args_get Atom.args_set GRule.length_enc GRule.ok_enc GRule.all_get GRule.all_set GRule.head_get GRule.head_set GRule.body_get GRule.body_set GRule.head_pred_get GRule.head_pred_set GRule.head_args_get GRule.head_args_set Cert.length_enc Cert.ok_enc Cert.all_get Cert.all_set Cert.names_get Cert.names_set Cert.nodes_get Cert.nodes_set Fact.length_enc Fact.ok_enc Fact.all_get Fact.all_set Fact.pred_get Fact.pred_set Fact.t_get Fact.t_set Literal.length_enc Literal.ok_enc Literal.all_get Literal.all_set Literal.neg_get Literal.neg_set Literal.atom_get Literal.atom_set Literal.atom_pred_get Literal.atom_pred_set Literal.atom_args_get Literal.atom_args_set Engine.length_enc Engine.ok_enc Engine.all_get Engine.all_set Engine.prog_get Engine.prog_set Engine.st_get Engine.st_set SrcCertm.length_enc SrcCertm.ok_enc SrcCertm.all_get SrcCertm.all_set SrcCertm.b_get SrcCertm.b_set SrcCertm.at__get SrcCertm.at__set GNode.length_enc GNode.ok_enc GNode.all_get GNode.all_set GNode.rule_get GNode.rule_set GNode.pred_get GNode.pred_set GNode.vals_get GNode.vals_set GNode.refs_get GNode.refs_set Term.length_enc Term.ok_enc Term.all_get Term.all_set Term.var_get Term.var_set Term.n_get Term.n_set Env.length_enc Env.ok_enc Env.all_get Env.all_set Env.val_get Env.val_set Env.set_get Env.set_set
attribute [local go_sem] size_put size_ext blk_put free_put blk_alloc free_alloc blk_drew free_drew blk_ext free_ext lookOr_some putOr_some segAt_some cellAt_some storeIn_some put_put put_alloc_new length_arr ok_arr_u8 ok_arr_u32 ok_arr_u64 ok_arr_i64 ok_arr_sl cellsV_agg cellsV_int cellsV_bool cellsV_string cellsV_pointer cellsV_slice cellsV_sl ok_int ok_bool ok_string ok_pointer ok_slice ok_sl toList_arr seg_arr set_arr nth_splice nth_splice0 seg_splice seg_splice0 splice_splice splice_splice0 length_splice_if
attribute [local go_sem ↓] execOp_box
attribute [local go_sem] box_run nth_arr_u8 put_arr_u8 blk_drewN free_drewN put_drewN blk_raw free_raw
attribute [local go_sem] Tryz.zl75 Tryz.zs75 Tryz.zl52 Tryz.zs52 Tryz.zl53 Tryz.zs53
/-- A name added if it is not there. -/
def addN (L : List (List UInt8)) (nm : List UInt8) : List (List UInt8) := if nm ∈ L then L else L ++ [nm]
theorem addN_len (L : List (List UInt8)) (nm : List UInt8) : (addN L nm).length ≤ L.length + 1 ∧ L.length ≤ (addN L nm).length := by
  unfold addN
  split
  · omega
  · rw [List.length_append, List.length_singleton]; omega
theorem foldl_take {α β : Type} (f : β → α → β) (b : β) {l : List α} {i : Nat} {x : α} (h : l[i]? = some x) : (l.take (i + 1)).foldl f b = f ((l.take i).foldl f b) x := by
  rw [List.take_add_one, h]
  simp
theorem bslice43 (w : World) (v : ByteArray) : (bsliceOp 43 1 #[(0, .string v)]).run Tryz.prog w = .ok (.value (.slice (some ⟨w.heap.size, 0, none⟩) 1 1)) (w.alloc (.cells #[.string v] 9)) := by kernel_rfl
attribute [local go_sem ↓] execOp_slice execOp_convert execOp_build execOp_bslice
attribute [local go_sem] bslice43
def AdPost (W0 V : World) (a : Option Addr) (n c : Nat) (L : List (List UInt8)) (e : Ending) (V' : World) : Prop := ∃ a' c', e = .returned (.slice a' L.length c') ∧ OutG encS 1 9 W0 V' a' L.length c' L ∧ Gro V V' (.slice a n c) (.slice a' L.length c')
def zAdI (W : World) (a : Option Addr) (n c : Nat) (nm : List UInt8) (L : List (List UInt8)) (f : Nat → Value) (V : World) : Prop := f 0 = .slice a n c ∧ f 1 = .string ⟨nm.toArray⟩ ∧ Hid (∃ W', W' = W ∧ V = W') ∧ ∃ i : Nat, i ≤ n ∧ f 5 = .int .i64 (i : Nat) ∧ Hid (∀ j x, j < i → L[j]? = some x → x ≠ nm)
set_option maxRecDepth 100000 in
theorem zframe23a (f : Nat → Value) : frameN 23 f = #[f 0, f 1, f 2, f 3, f 4, f 5, f 6, f 7, f 8, f 9, f 10, f 11, f 12, f 13, f 14, f 15, f 16, f 17, f 18, f 19, f 20, f 21, f 22] := by kernel_rfl
set_option maxRecDepth 20000 in
set_option maxHeartbeats 1000000 in
theorem addName_any {W0 V : World} {a : Option Addr} {n c : Nat} {L : List (List UInt8)} (h : OutG encS 1 9 W0 V a n c L) (hl : L.length ≤ 1000000000) (nm : List UInt8) : Calls Tryz.prog 88 #[.slice a n c, .string ⟨nm.toArray⟩] V (AdPost W0 V a n c (addN L nm)) := by
  obtain ⟨Q, hQ⟩ : ∃ Q, Q = AdPost W0 V a n c (addN L nm) := ⟨_, rfl⟩
  rw [← hQ]
  have HQ := hid_of hQ
  have HO := hid_of h
  have hnl : n = L.length := h.2.2
  have hn : n ≤ 1000000000 := by omega
  have HNL := hid_of hnl
  clear hQ h hnl
  go_enter Tryz.func88, Tryz.ntmps88
  go_wp2_with fail
  refine wp_loop_f 23 (zAdI V a n c nm L) (fun f _ => n - (intOf (f 5)).toNat) rfl ⟨rfl, rfl, ⟨_, rfl, rfl⟩, 0, by omega, rfl, fun j x hj => by omega⟩ ?_
  intro F V' hrel
  obtain ⟨f0, f1, HV, i, hi, f5, HI⟩ := hrel
  have H5 := hid_of f5
  rw [zframe23a, f0, f1, f5]
  clear f0 f1 f5
  obtain ⟨W', rfl, rfl⟩ := HV.out
  clear HV
  by_cases hin : i < n
  rotate_left 1
  · have hin' : ¬ (i : Int) < (n : Int) := by omega
    obtain ⟨a', c', V2, hrun, hO2, hG2⟩ := HO.out.app el50 nm hl #[.string ⟨nm.toArray⟩] rfl 1
    have HP : Hid (Q (.returned (.slice a' (n + 1) c')) V2) := by
      show Q _ _
      rw [HQ.out]
      have e : addN L nm = L ++ [nm] := by
        unfold addN
        rw [if_neg]
        intro hm
        obtain ⟨j, hj⟩ := List.mem_iff_getElem?.1 hm
        exact HI.out j nm (by have := (List.getElem?_eq_some_iff.1 hj).1; have := HNL.out; omega) hj rfl
      rw [e]
      have e2 : (L ++ [nm]).length = n + 1 := by rw [List.length_append, List.length_singleton, HNL.out]
      unfold AdPost
      rw [e2]
      exact ⟨a', c', rfl, hO2, hG2⟩
    clear HI hO2 hG2
    go_wp2_with (at_builtin; refine wpList_append_run rfl _ _ 43 rfl _ _ _ _ rfl rfl hrun ?_)
    try go_ret
    exact HP.out
  have hin' : (i : Int) < (n : Int) := by omega
  have i0 : (0 : Int) ≤ (i : Int) := by omega
  have i2 : ((i : Int)).toNat = i := by omega
  obtain ⟨x, hx⟩ : ∃ x, L[i]? = some x := ⟨_, List.getElem?_eq_getElem (by have := HNL.out; omega)⟩
  obtain ⟨b, C, rfl, g1, g2, g3⟩ := str_at (HO.out.rw el50) hx
  by_cases hxn : x = nm
  · subst hxn
    have HP : Hid (Q (.returned (.slice (some ⟨b, 0, none⟩) n c)) V') := by
      show Q _ _
      rw [HQ.out]
      have e : addN L x = L := by unfold addN; rw [if_pos (List.mem_of_getElem? hx)]
      rw [e]
      unfold AdPost
      rw [← HNL.out]
      exact ⟨_, c, rfl, HO.out, Gro.refl _ _⟩
    clear HI hx
    go_wp2_with fail
    try go_ret
    exact HP.out
  · have hne := str_ne hxn
    have hd1 : (x == nm) = false := str_beq hxn
    have HI' : Hid (∀ j x, j < i + 1 → L[j]? = some x → x ≠ nm) := by
      intro j y hj hy
      by_cases hji : j = i
      · subst hji
        rw [hx] at hy
        rw [← Option.some.inj hy]; exact hxn
      · exact HI.out j y (by omega) hy
    clear HI hxn hx
    go_wp2_with fail
    refine ⟨rfl, rfl, ⟨rfl, rfl, ⟨_, rfl, rfl⟩, i + 1, by omega, ?_, HI'⟩, ?_⟩
    · show Value.int .i64 _ = _
      go_num
    · show n - (intOf (Value.int .i64 _)).toNat < n - (intOf (F 5)).toNat
      rw [H5.out]
      simp [intOf]; omega
/-- A program inside a block. -/
def ProgO (W : World) (b o : Nat) (p : PP) : Prop := ∃ Ce, blk W b = some Ce ∧ o + 4 ≤ Ce.length ∧ PgR W (Ce.drop o) p
theorem ProgO.sub {W W' : World} {b o : Nat} {p : PP} (h : ProgO W b o p) (hs : Sub W W') : ProgO W' b o p := by
  obtain ⟨Ce, h1, h2, h3⟩ := h
  exact ⟨Ce, hs b Ce h1, h2, h3.sub hs⟩
theorem ProgC.o {W : World} {b : Nat} {p : PP} (h : ProgC W b p) : ProgO W b 0 p := by
  obtain ⟨Ce, h1, h2, h3⟩ := h
  exact ⟨Ce, h1, by omega, by rw [List.drop_zero]; exact h3⟩
theorem nth_drop (C : List Value) (o k : Nat) : nth (C.drop o) k = nth C (o + k) := by
  unfold nth
  rw [List.getElem?_drop]
theorem ProgO.cells {W : World} {b o : Nat} {p : PP} (h : ProgO W b o p) : ∃ (Ce : List Value) (pa : Option Addr) (pn pc : Nat) (da : Option Addr) (dn dc : Nat) (ra : Option Addr) (rn rc : Nat), blk W b = some Ce ∧ o + 4 ≤ Ce.length ∧ nth Ce o = some (.slice pa pn pc) ∧ nth Ce (o + 1) = some (.slice da dn dc) ∧ nth Ce (o + 2) = some (.slice ra rn rc) ∧ nth Ce (o + 3) = some (.int .i64 p.strata) ∧ Rw encS 1 W pa pn p.pool ∧ Rw PredInfo.enc 3 W da dn p.preds ∧ ∃ Rs : List GRule, Rw GRule.enc 3 W ra rn Rs ∧ Rs.length = p.rules.length ∧ ∀ (i : Nat) (x : GRule) (r : PR), Rs[i]? = some x → p.rules[i]? = some r → RuleC W x r := by
  obtain ⟨Ce, h1, h2, ⟨pa, pn, pc⟩, ⟨da, dn, dc⟩, ⟨ra, rn, rc⟩, k0, k1, k2, k3, k4, k5, k6⟩ := h
  rw [nth_drop] at k0 k1 k2 k3
  exact ⟨Ce, pa, pn, pc, da, dn, dc, ra, rn, rc, h1, h2, k0, k1, k2, k3, k4, k5, k6⟩
/-- The constants of a program and its facts. -/
def cnR (ns : List (List UInt8)) (r : NRow) : List (List UInt8) := r.foldl addN ns
def cnL (ns : List (List UInt8)) (L : List NRow) : List (List UInt8) := L.foldl cnR ns
def constF (pool : List (List UInt8)) (F : List (List NRow)) : List (List UInt8) := F.foldl cnL (pool.foldl addN [])
def CnPost (W : World) (L : List (List UInt8)) (e : Ending) (V : World) : Prop := ∃ a c, e = .returned (.slice a L.length c) ∧ OutG encS 1 9 W V a L.length c L
def zC1 (W : World) (v0 v1 : Value) (N : Nat) (pool : List (List UInt8)) (f : Nat → Value) (V : World) : Prop := f 0 = v0 ∧ f 1 = v1 ∧ ∃ (i : Nat) (a : Option Addr) (n c : Nat), i ≤ N ∧ f 6 = .int .i64 (i : Nat) ∧ f 5 = .slice a n c ∧ Hid (∃ L, L = (pool.take i).foldl addN [] ∧ L.length ≤ i ∧ OutG encS 1 9 W V a n c L)
def zC2 (W : World) (v1 : Value) (N : Nat) (n0 : List (List UInt8)) (F : List (List NRow)) (f : Nat → Value) (V : World) : Prop := f 1 = v1 ∧ ∃ (q : Nat) (a : Option Addr) (n c : Nat), q ≤ N ∧ f 7 = .int .i64 (q : Nat) ∧ f 5 = .slice a n c ∧ Hid (∃ L, L = (F.take q).foldl cnL n0 ∧ L.length ≤ 1000000 + q * 400000 ∧ OutG encS 1 9 W V a n c L)
def zC3 (W : World) (v1 v7 : Value) (N q : Nat) (n1 : List (List UInt8)) (Ls : List NRow) (f : Nat → Value) (V : World) : Prop := f 1 = v1 ∧ f 7 = v7 ∧ ∃ (i : Nat) (a : Option Addr) (n c : Nat), i ≤ N ∧ f 8 = .int .i64 (i : Nat) ∧ f 5 = .slice a n c ∧ Hid (∃ L, L = (Ls.take i).foldl cnR n1 ∧ L.length ≤ 1000000 + q * 400000 + i * 4 ∧ OutG encS 1 9 W V a n c L)
def zC4 (W : World) (v1 v7 v8 : Value) (N q i : Nat) (n2 : List (List UInt8)) (r : NRow) (f : Nat → Value) (V : World) : Prop := f 1 = v1 ∧ f 7 = v7 ∧ f 8 = v8 ∧ ∃ (k : Nat) (a : Option Addr) (n c : Nat), k ≤ N ∧ f 9 = .int .i64 (k : Nat) ∧ f 5 = .slice a n c ∧ Hid (∃ L, L = (r.take k).foldl addN n2 ∧ L.length ≤ 1000000 + q * 400000 + i * 4 + k ∧ OutG encS 1 9 W V a n c L)
set_option maxRecDepth 100000 in
theorem zframe68c (f : Nat → Value) : frameN 68 f = #[f 0, f 1, f 2, f 3, f 4, f 5, f 6, f 7, f 8, f 9, f 10, f 11, f 12, f 13, f 14, f 15, f 16, f 17, f 18, f 19, f 20, f 21, f 22, f 23, f 24, f 25, f 26, f 27, f 28, f 29, f 30, f 31, f 32, f 33, f 34, f 35, f 36, f 37, f 38, f 39, f 40, f 41, f 42, f 43, f 44, f 45, f 46, f 47, f 48, f 49, f 50, f 51, f 52, f 53, f 54, f 55, f 56, f 57, f 58, f 59, f 60, f 61, f 62, f 63, f 64, f 65, f 66, f 67] := by kernel_rfl
set_option maxRecDepth 40000 in
set_option maxHeartbeats 2000000 in
theorem constants_any (W : World) (b ob : Nat) (p : PP) (hp : ProgO W b ob p) (fa : Option Addr) (fn fc : Nat) (F : List (List NRow)) (hF : FactsAt W fa fn F) (hpl : p.pool.length ≤ 1000000) (hfl : F.length ≤ 100) (hll : ∀ L ∈ F, L.length ≤ 100000 ∧ ∀ r ∈ L, r.length ≤ 4) : Calls Tryz.prog 40 #[.pointer (some ⟨b, ob, none⟩), .slice fa fn fc] W (CnPost W (constF p.pool F)) := by
  obtain ⟨Q, hQ⟩ : ∃ Q, Q = CnPost W (constF p.pool F) := ⟨_, rfl⟩
  rw [← hQ]
  have HQ := hid_of hQ
  have HF := hid_of hF
  have HLL := hid_of hll
  have hfn : F.length = fn := hF.choose_spec.2.1
  have HFN := hid_of hfn
  have hfb : fn ≤ 100 := by omega
  obtain ⟨Ce, pa, pn, pc, da, dn, dc, ra, rn, rc, hb, hl4, k0, k1, k2, k3, k4, -, -⟩ := hp.cells
  have hpn : p.pool.length = pn := k4.1
  have HPN := hid_of hpn
  have hpb : pn ≤ 1000000 := by omega
  have HPL := hid_of k4
  have l0 : ob < Ce.length := by omega
  clear hQ hF hll hfn hfl hpl hp k1 k2 k3 k4 hpn hl4
  go_enter Tryz.func40, Tryz.ntmps40
  go_upto_region 3 with fail
  refine wp_loop_f 68 (zC1 W (.pointer (some ⟨b, ob, none⟩)) (.slice fa fn fc) pn p.pool) (fun f _ => pn - (intOf (f 6)).toNat) rfl ⟨rfl, rfl, 0, none, 0, 0, by omega, rfl, rfl, [], rfl, Nat.le_refl _, OutG.nil (ext_Ext (Ext.refl _))⟩ ?_
  intro F1 V hrel
  obtain ⟨f0, f1, i, a, n, c, hi, f6, f5, HI⟩ := hrel
  have H6 := hid_of f6
  rw [zframe68c, f0, f1, f5, f6]
  clear f0 f1 f5 f6
  obtain ⟨L, hL, hLn, hO⟩ := HI.out
  have HL := hid_of hL
  have HO := hid_of hO
  have hbV : blk V b = some Ce := (hO.2.1.blk (blk_lt hb)).trans hb
  clear HI hL hO
  by_cases hin : i < pn
  · have hin' : (i : Int) < (pn : Int) := by omega
    have i0 : (0 : Int) ≤ (i : Int) := by omega
    have i2 : ((i : Int)).toNat = i := by omega
    obtain ⟨x, hx⟩ : ∃ x, p.pool[i]? = some x := ⟨_, List.getElem?_eq_getElem (by have := HPN.out; omega)⟩
    obtain ⟨b9, C9, rfl, g1, g2, g3⟩ := str_at HPL.out hx
    have hCV : blk V b9 = some C9 := (HO.out.2.1.blk (blk_lt g1)).trans g1
    have had := addName_any HO.out (by omega) x
    have HI' : Hid (∀ a c V', OutG encS 1 9 W V' a (addN L x).length c (addN L x) → ∃ L', L' = (p.pool.take (i + 1)).foldl addN [] ∧ L'.length ≤ i + 1 ∧ OutG encS 1 9 W V' a (addN L x).length c L') := fun a c V' h9 => ⟨addN L x, by rw [foldl_take _ _ hx, ← HL.out], by have := (addN_len L x).1; omega, h9⟩
    clear hx g1 hLn
    go_wp2_with fail
    refine had.mono ?_
    rintro e V' ⟨a', c', rfl, hO', -⟩
    dsimp only
    have HJ := hid_of (HI'.out a' c' V' hO')
    clear had hO' HI'
    go_wp2_with fail
    refine ⟨rfl, rfl, ⟨rfl, rfl, i + 1, a', (addN L x).length, c', by omega, ?_, rfl, HJ⟩, ?_⟩
    · show Value.int .i64 _ = _
      go_num
    · show pn - (intOf (Value.int .i64 _)).toNat < pn - (intOf (F1 6)).toNat
      rw [H6.out]
      simp [intOf]; omega
  have hin' : ¬ (i : Int) < (pn : Int) := by omega
  have HL0 : Hid (L = p.pool.foldl addN []) := by
    show _ = _
    rw [HL.out, List.take_of_length_le (by have := HPN.out; omega)]
  have HB0 : Hid (∃ L', L' = (F.take 0).foldl cnL L ∧ L'.length ≤ 1000000 + 0 * 400000 ∧ OutG encS 1 9 W V a n c L') := ⟨L, rfl, by omega, HO.out⟩
  clear HL HO hLn
  go_upto_region 7 with fail
  refine wp_loop_f 68 (zC2 W (.slice fa fn fc) fn L F) (fun f _ => fn - (intOf (f 7)).toNat) rfl ⟨rfl, 0, a, n, c, by omega, rfl, rfl, HB0⟩ ?_
  clear HB0 hbV hin' hin H6 hi
  intro F2 V2 hrel
  obtain ⟨f1, q, a, n, c, hq, f7, f5, HI⟩ := hrel
  have H7 := hid_of f7
  rw [zframe68c, f1, f5, f7]
  clear f1 f5 f7
  obtain ⟨L2, hL, hLn, hO⟩ := HI.out
  have HL := hid_of hL
  have HO := hid_of hO
  clear HI hL hO
  by_cases hqn : q < fn
  rotate_left 1
  · have hqn' : ¬ (q : Int) < (fn : Int) := by omega
    have HP : Hid (Q (.returned (.slice a n c)) V2) := by
      show Q _ _
      rw [HQ.out]
      have e1 : L2 = constF p.pool F := by
        rw [HL.out, List.take_of_length_le (by have := HFN.out; omega)]
        unfold constF
        rw [← HL0.out]
      have e2 : n = L2.length := HO.out.2.2
      rw [← e1]
      unfold CnPost
      rw [← e2]
      exact ⟨a, c, rfl, HO.out⟩
    clear HL HO hLn
    go_wp2_with fail
    try go_ret
    exact HP.out
  have hqn' : (q : Int) < (fn : Int) := by omega
  have q0 : (0 : Int) ≤ (q : Int) := by omega
  have q2 : ((q : Int)).toNat = q := by omega
  obtain ⟨Ls, hLs⟩ : ∃ x, F[q]? = some x := ⟨_, List.getElem?_eq_getElem (by have := HFN.out; omega)⟩
  obtain ⟨bq, Cq, sq, rfl, g1, g2, g3, g4⟩ := HF.out.at hLs
  obtain ⟨sa, sn, sc⟩ := sq
  dsimp only at g3 g4
  have HG1 := hid_of g1
  have HG4 := hid_of g4
  have hsn : Ls.length = sn := g4.choose_spec.2.1
  have HSN := hid_of hsn
  obtain ⟨hsb, hrb⟩ := HLL.out Ls (List.mem_of_getElem? hLs)
  have HRB := hid_of hrb
  have hsb' : sn ≤ 100000 := by omega
  have HLS := hid_of hLs
  have HB1 : Hid (∃ L', L' = (Ls.take 0).foldl cnR L2 ∧ L'.length ≤ 1000000 + q * 400000 + 0 * 4 ∧ OutG encS 1 9 W V2 a n c L') := ⟨L2, rfl, by omega, HO.out⟩
  clear hLs g1 g4 hsn hsb hrb HO hLn
  go_upto_region 10 with fail
  refine wp_loop_f 68 (zC3 W (.slice (some ⟨bq, 0, none⟩) fn fc) (.int .i64 (q : Int)) sn q L2 Ls) (fun f _ => sn - (intOf (f 8)).toNat) rfl ⟨rfl, rfl, 0, a, n, c, by omega, rfl, rfl, HB1⟩ ?_
  clear HB1
  intro F3 V3 hrel
  obtain ⟨f1, f7, i, a, n, c, hi, f8, f5, HI⟩ := hrel
  have H8 := hid_of f8
  rw [zframe68c, f1, f5, f7, f8]
  clear f1 f5 f7 f8
  obtain ⟨L3, hL3, hLn3, hO3⟩ := HI.out
  have HL3 := hid_of hL3
  have HO3 := hid_of hO3
  have hbq : blk V3 bq = some Cq := (hO3.2.1.blk (blk_lt HG1.out)).trans HG1.out
  clear HI hL3 hO3
  by_cases hin : i < sn
  rotate_left 1
  · have hin' : ¬ (i : Int) < (sn : Int) := by omega
    have HJ : Hid (∃ L', L' = (F.take (q + 1)).foldl cnL L ∧ L'.length ≤ 1000000 + (q + 1) * 400000 ∧ OutG encS 1 9 W V3 a n c L') := by
      refine ⟨L3, ?_, by omega, HO3.out⟩
      rw [foldl_take _ _ HLS.out, ← HL.out, HL3.out, List.take_of_length_le (by have := HSN.out; omega)]
      rfl
    clear HL3 HO3 hLn3
    go_wp2_with fail
    refine ⟨rfl, rfl, ⟨rfl, q + 1, a, n, c, by omega, ?_, rfl, HJ⟩, ?_⟩
    · show Value.int .i64 _ = _
      go_num
    · show fn - (intOf (Value.int .i64 _)).toNat < fn - (intOf (F2 7)).toNat
      rw [H7.out]
      simp [intOf]; omega
  have hin' : (i : Int) < (sn : Int) := by omega
  have i0 : (0 : Int) ≤ (i : Int) := by omega
  have i2 : ((i : Int)).toNat = i := by omega
  obtain ⟨r, hr⟩ : ∃ x, Ls[i]? = some x := ⟨_, List.getElem?_eq_getElem (by have := HSN.out; omega)⟩
  obtain ⟨br, Cr, sr, rfl, g5, g6, g7, g8⟩ := HG4.out.at hr
  obtain ⟨ta, tn, tc⟩ := sr
  dsimp only at g7 g8
  have htn : r.length = tn := g8.1
  have htb : tn ≤ 4 := by have := HRB.out r (List.mem_of_getElem? hr); omega
  have HG5 := hid_of g5
  have HG8 := hid_of g8
  have HTN := hid_of htn
  have HR := hid_of hr
  have hbr : blk V3 br = some Cr := (HO3.out.2.1.blk (blk_lt g5)).trans g5
  have HB2 : Hid (∃ L', L' = (r.take 0).foldl addN L3 ∧ L'.length ≤ 1000000 + q * 400000 + i * 4 + 0 ∧ OutG encS 1 9 W V3 a n c L') := ⟨L3, rfl, by omega, HO3.out⟩
  clear g5 g8 htn hr HO3 hLn3
  go_upto_region 13 with fail
  refine wp_loop_f 68 (zC4 W (.slice (some ⟨bq, 0, none⟩) fn fc) (.int .i64 (q : Int)) (.int .i64 (i : Int)) tn q i L3 r) (fun f _ => tn - (intOf (f 9)).toNat) rfl ⟨rfl, rfl, rfl, 0, a, n, c, by omega, rfl, rfl, HB2⟩ ?_
  clear HB2 hbr hbq
  intro F4 V4 hrel
  obtain ⟨f1, f7, f8, k, a, n, c, hk, f9, f5, HI⟩ := hrel
  have H9 := hid_of f9
  rw [zframe68c, f1, f5, f7, f8, f9]
  clear f1 f5 f7 f8 f9
  obtain ⟨L4, hL4, hLn4, hO4⟩ := HI.out
  have HL4 := hid_of hL4
  have HO4 := hid_of hO4
  have hbq : blk V4 bq = some Cq := (hO4.2.1.blk (blk_lt HG1.out)).trans HG1.out
  have hbr : blk V4 br = some Cr := (hO4.2.1.blk (blk_lt HG5.out)).trans HG5.out
  clear HI hL4 hO4
  by_cases hkn : k < tn
  rotate_left 1
  · have hkn' : ¬ (k : Int) < (tn : Int) := by omega
    have HJ : Hid (∃ L', L' = (Ls.take (i + 1)).foldl cnR L2 ∧ L'.length ≤ 1000000 + q * 400000 + (i + 1) * 4 ∧ OutG encS 1 9 W V4 a n c L') := by
      refine ⟨L4, ?_, by omega, HO4.out⟩
      rw [foldl_take _ _ HR.out, ← HL3.out, HL4.out, List.take_of_length_le (by have := HTN.out; omega)]
      rfl
    clear HL4 HO4 hLn4
    go_wp2_with fail
    refine ⟨rfl, rfl, ⟨rfl, rfl, i + 1, a, n, c, by omega, ?_, rfl, HJ⟩, ?_⟩
    · show Value.int .i64 _ = _
      go_num
    · show sn - (intOf (Value.int .i64 _)).toNat < sn - (intOf (F3 8)).toNat
      rw [H8.out]
      simp [intOf]; omega
  have hkn' : (k : Int) < (tn : Int) := by omega
  have j0 : (0 : Int) ≤ (k : Int) := by omega
  have j2 : ((k : Int)).toNat = k := by omega
  obtain ⟨x, hx⟩ : ∃ x, r[k]? = some x := ⟨_, List.getElem?_eq_getElem (by have := HTN.out; omega)⟩
  obtain ⟨b9, C9, rfl, g9, g10, g11⟩ := str_at HG8.out hx
  have hC9 : blk V4 b9 = some C9 := (HO4.out.2.1.blk (blk_lt g9)).trans g9
  have had := addName_any HO4.out (by omega) x
  have HI' : Hid (∀ a c V', OutG encS 1 9 W V' a (addN L4 x).length c (addN L4 x) → ∃ L', L' = (r.take (k + 1)).foldl addN L3 ∧ L'.length ≤ 1000000 + q * 400000 + i * 4 + (k + 1) ∧ OutG encS 1 9 W V' a (addN L4 x).length c L') := fun a c V' h9 => ⟨addN L4 x, by rw [foldl_take _ _ hx, ← HL4.out], by have := (addN_len L4 x).1; omega, h9⟩
  clear hx g9 hLn4
  go_wp2_with fail
  refine had.mono ?_
  rintro e V' ⟨a', c', rfl, hO', -⟩
  dsimp only
  have HJ := hid_of (HI'.out a' c' V' hO')
  clear had hO' HI'
  go_wp2_with fail
  refine ⟨rfl, rfl, ⟨rfl, rfl, rfl, k + 1, a', (addN L4 x).length, c', by omega, ?_, rfl, HJ⟩, ?_⟩
  · show Value.int .i64 _ = _
    go_num
  · show tn - (intOf (Value.int .i64 _)).toNat < tn - (intOf (F4 9)).toNat
    rw [H9.out]
    simp [intOf]; omega
end Go.Proofs.Qxb6500787aGreat
