import Derived.Test.Qxb6500787aGreatMr

import Derived.StillTailTactics
import Derived.Deep.QuietTactic
import Derived.BigQuiet
import Derived.Deep.RegionHeld
import Derived.Deep.CutRange
import Derived.Laws.ResultCell
import Derived.Laws.Rows
import Derived.DeepKeys
import Derived.DataBytes
import Derived.Laws.StructEq
import Derived.Laws.AppendOwn
import Derived.Laws.MakeOwn
import Derived.Lib.AppendStr
set_option linter.unusedSimpArgs false
set_option linter.unusedVariables false
namespace Go.Proofs.Qxb6500787aGreat
open Go.RowKit Go.Blk
attribute [local go_sem ↓] execOp_load execOp_store execOp_alloc
attribute [local go_sem] Tryz.ld26 Tryz.st26 Tryz.ld27 Tryz.st27 Tryz.ld28 Tryz.st28 Tryz.ld3 Tryz.st3 Tryz.ld29 Tryz.st29 Tryz.ld44 Tryz.st44 Tryz.ld4 Tryz.st4 Tryz.ld50 Tryz.st50 Tryz.ld32 Tryz.st32 Tryz.ld49 Tryz.st49 Tryz.ld68 Tryz.st68 Tryz.ld9 Tryz.st9 Tryz.ld40 Tryz.st40 Tryz.ld138 Tryz.st138 Tryz.ld139 Tryz.st139 Tryz.ld146 Tryz.st146 Tryz.ld183 Tryz.st183 Tryz.ld184 Tryz.st184 Tryz.ld192 Tryz.st192 Tryz.ld195 Tryz.st195 Tryz.ld217 Tryz.st217 Tryz.ld159 Tryz.st159 Tryz.ld142 Tryz.st142 Tryz.ld2 Tryz.st2 Tryz.ld5 Tryz.st5 Tryz.ld12 Tryz.st12 Tryz.ld21 Tryz.st21 Tryz.ld22 Tryz.st22 Tryz.ld24 Tryz.st24 Tryz.ld58 Tryz.st58 Tryz.ld97 Tryz.st97 Tryz.ld101 Tryz.st101 Tryz.ld116 Tryz.st116 Tryz.ld121 Tryz.st121 Tryz.ld135 Tryz.st135 Tryz.ld136 Tryz.st136 Tryz.ld143 Tryz.st143 Tryz.ld148 Tryz.st148 Tryz.ld154 Tryz.st154 Tryz.ld173 Tryz.st173 Tryz.ld187 Tryz.st187 Tryz.ld222 Tryz.st222 Tryz.ld241 Tryz.st241 Tryz.ld248 Tryz.st248 Tryz.ld268 Tryz.st268 Tryz.ld272 Tryz.st272 Tryz.ld153 Tryz.st153 Tryz.ld255 Tryz.st255 Tryz.ld256 Tryz.st256 Tryz.ld129 Tryz.st129 Tryz.ld152 Tryz.st152 Tryz.ld31 Tryz.st31 Tryz.ld46 Tryz.st46 Tryz.ld52 Tryz.st52 Tryz.ld54 Tryz.st54 Tryz.ld60 Tryz.st60 Tryz.ld70 Tryz.st70 Tryz.ld74 Tryz.st74 Tryz.ld93 Tryz.st93 Tryz.ld141 Tryz.st141 Tryz.ld151 Tryz.st151 Tryz.ld170 Tryz.st170 Tryz.ld186 Tryz.st186 Tryz.ld189 Tryz.st189 Tryz.ld194 Tryz.st194 Tryz.ld197 Tryz.st197 Tryz.ld219 Tryz.st219 Tryz.ld224 Tryz.st224 Tryz.ld230 Tryz.st230 Tryz.ld235 Tryz.st235 Tryz.ld243 Tryz.st243 Tryz.ld247 Tryz.st247 Tryz.ld252 Tryz.st252 Tryz.ld258 Tryz.st258 Tryz.al153 Tryz.al255 Tryz.al256 Tryz.al129 Tryz.al152 Tryz.al31 Tryz.al46 Tryz.al52 Tryz.al54 Tryz.al60 Tryz.al70 Tryz.al74 Tryz.al93 Tryz.al141 Tryz.al151 Tryz.al170 Tryz.al186 Tryz.al189 Tryz.al194 Tryz.al197 Tryz.al219 Tryz.al224 Tryz.al230 Tryz.al235 Tryz.al243 Tryz.al247 Tryz.al252 Tryz.al258
attribute [local go_sem] Request.length_enc Request.ok_enc Request.all_get Request.all_set Request.kind_get Request.kind_set Request.blob_get Request.blob_set Request.items_get Request.items_set Request.pred_get Request.pred_set Request.slots_get Request.slots_set Trace.length_enc Trace.ok_enc Trace.all_get Trace.all_set Trace.op_get Trace.op_set Trace.calls_get Trace.calls_set Item.length_enc Item.ok_enc Item.all_get Item.all_set Item.del_get Item.del_set Item.pred_get Item.pred_set Item.args_get Item.args_set Reply.length_enc Reply.ok_enc Reply.all_get Reply.all_set Reply.code_get Reply.code_set Reply.kind_get Reply.kind_set Reply.index_get Reply.index_set Reply.yes_get Reply.yes_set Reply.preds_get Reply.preds_set Reply.rules_get Reply.rules_set Reply.arity_get Reply.arity_set Reply.rows_get Reply.rows_set Reply.fact_get Reply.fact_set Reply.fact_del_get Reply.fact_del_set Reply.fact_pred_get Reply.fact_pred_set Reply.fact_args_get Reply.fact_args_set GEntry.length_enc GEntry.ok_enc GEntry.all_get GEntry.all_set GEntry.seq_get GEntry.seq_set GEntry.kind_get GEntry.kind_set GEntry.code_get GEntry.code_set GOp.length_enc GOp.ok_enc GOp.all_get GOp.all_set GOp.kind_get GOp.kind_set GOp.raw_get GOp.raw_set Reader.length_enc Reader.ok_enc Reader.all_get Reader.all_set Reader.buf_get Reader.buf_set Reader.at__get Reader.at__set Slot.length_enc Slot.ok_enc Slot.all_get Slot.all_set Slot.bound_get Slot.bound_set Slot.name_get Slot.name_set Session.length_enc Session.ok_enc Session.all_get Session.all_set Session.svc_get Session.svc_set Session.buf_get Session.buf_set Session.closed_get Session.closed_set GProgram.length_enc GProgram.ok_enc GProgram.all_get GProgram.all_set GProgram.pool_get GProgram.pool_set GProgram.preds_get GProgram.preds_set GProgram.rules_get GProgram.rules_set GProgram.strata_get GProgram.strata_set PredInfo.length_enc PredInfo.ok_enc PredInfo.all_get PredInfo.all_set PredInfo.arity_get PredInfo.arity_set PredInfo.base_get PredInfo.base_set PredInfo.stratum_get PredInfo.stratum_set Change.length_enc Change.ok_enc Change.all_get Change.all_set Change.del_get Change.del_set Change.pred_get Change.pred_set Change.t_get Change.t_set Store.length_enc Store.ok_enc Store.all_get Store.all_set Store.names_get Store.names_set Store.arity_get Store.arity_set Store.rows_get Store.rows_set Src.length_enc Src.ok_enc Src.all_get Src.all_set Src.b_get Src.b_set Src.at__get Src.at__set Atom.length_enc Atom.ok_enc Atom.all_get Atom.all_set Atom.pred_get Atom.pred_set Atom.args_get Atom.args_set GRule.length_enc GRule.ok_enc GRule.all_get GRule.all_set GRule.head_get GRule.head_set GRule.body_get GRule.body_set GRule.head_pred_get GRule.head_pred_set GRule.head_args_get GRule.head_args_set Cert.length_enc Cert.ok_enc Cert.all_get Cert.all_set Cert.names_get Cert.names_set Cert.nodes_get Cert.nodes_set Fact.length_enc Fact.ok_enc Fact.all_get Fact.all_set Fact.pred_get Fact.pred_set Fact.t_get Fact.t_set Literal.length_enc Literal.ok_enc Literal.all_get Literal.all_set Literal.neg_get Literal.neg_set Literal.atom_get Literal.atom_set Literal.atom_pred_get Literal.atom_pred_set Literal.atom_args_get Literal.atom_args_set Engine.length_enc Engine.ok_enc Engine.all_get Engine.all_set Engine.prog_get Engine.prog_set Engine.st_get Engine.st_set SrcCertm.length_enc SrcCertm.ok_enc SrcCertm.all_get SrcCertm.all_set SrcCertm.b_get SrcCertm.b_set SrcCertm.at__get SrcCertm.at__set GNode.length_enc GNode.ok_enc GNode.all_get GNode.all_set GNode.rule_get GNode.rule_set GNode.pred_get GNode.pred_set GNode.vals_get GNode.vals_set GNode.refs_get GNode.refs_set Term.length_enc Term.ok_enc Term.all_get Term.all_set Term.var_get Term.var_set Term.n_get Term.n_set Env.length_enc Env.ok_enc Env.all_get Env.all_set Env.val_get Env.val_set Env.set_get Env.set_set
attribute [local go_sem] size_put size_ext blk_put free_put blk_alloc free_alloc blk_drew free_drew blk_ext free_ext lookOr_some putOr_some segAt_some cellAt_some storeIn_some put_put put_alloc_new length_arr ok_arr_u8 ok_arr_u32 ok_arr_u64 ok_arr_i64 ok_arr_sl cellsV_agg cellsV_int cellsV_bool cellsV_string cellsV_pointer cellsV_slice cellsV_sl ok_int ok_bool ok_string ok_pointer ok_slice ok_sl toList_arr seg_arr set_arr nth_splice nth_splice0 seg_splice seg_splice0 splice_splice splice_splice0 length_splice_if
attribute [local go_sem ↓] execOp_box
attribute [local go_sem] box_run nth_arr_u8 put_arr_u8 blk_drewN free_drewN put_drewN blk_raw free_raw
/-- A policy that may be loaded, as the model says it. -/
def basH (p : PP) (r : PR) : Bool := (pI p r.head.pred).base
def cyR (p : PP) (r : PR) (l : PL) (b : Bool) : Prop := if l.neg = true then rchP p r.head.pred l.atom.pred b else b = false
inductive AcR (p : PP) : Int → Prop where
  | lim : limB p = false → AcR p 24
  | fit : limB p = true → p.rules.all (rlB p) = false → AcR p 25
  | bas : limB p = true → p.rules.all (rlB p) = true → p.rules.any (basH p) = true → AcR p 26
  | rng : limB p = true → p.rules.all (rlB p) = true → p.rules.any (basH p) = false → p.rules.all resB = false → AcR p 27
  | cyc (r : PR) (l : PL) : limB p = true → p.rules.all (rlB p) = true → p.rules.any (basH p) = false → p.rules.all resB = true → r ∈ p.rules → l ∈ r.body → cyR p r l true → AcR p 28
  | ok : limB p = true → p.rules.all (rlB p) = true → p.rules.any (basH p) = false → p.rules.all resB = true → (∀ r ∈ p.rules, ∀ l ∈ r.body, cyR p r l false) → AcR p 0
def AcPost (W : World) (p : PP) (e : Ending) (V : World) : Prop := ∃ c, e = .returned (.int .i64 c) ∧ AcR p c ∧ W.Extends V
def zAc {α : Type} (W : World) (v0 : Value) (j N : Nat) (L : List α) (P : α → Prop) (f : Nat → Value) (V : World) : Prop := f 0 = v0 ∧ ∃ i : Nat, i ≤ N ∧ f j = .int .i64 (i : Nat) ∧ Hid (W.Extends V ∧ ∀ (m : Nat) (x : α), m < i → L[m]? = some x → P x)
def zAd {α : Type} (W : World) (v0 : Value) (jo io j N : Nat) (L : List α) (P : α → Prop) (f : Nat → Value) (V : World) : Prop := f 0 = v0 ∧ f jo = .int .i64 (io : Nat) ∧ ∃ i : Nat, i ≤ N ∧ f j = .int .i64 (i : Nat) ∧ Hid (W.Extends V ∧ ∀ (m : Nat) (x : α), m < i → L[m]? = some x → P x)
theorem progC_ext {W V : World} {b : Nat} {p : PP} (h : ProgC W b p) (hx : W.Extends V) : ProgC V b p := by
  obtain ⟨Ce, h1, h2, h3⟩ := h
  exact ⟨Ce, (hx.blk (blk_lt h1)).trans h1, h2, h3.sub (Sub.ext hx)⟩
theorem up_one {α : Type} {L : List α} {P : α → Prop} {i : Nat} {x : α} (h : ∀ (m : Nat) (x : α), m < i → L[m]? = some x → P x) (hx : L[i]? = some x) (hp : P x) : ∀ (m : Nat) (x : α), m < i + 1 → L[m]? = some x → P x := fun m y hm hy => by
  by_cases e : m = i
  · rw [e, hx] at hy
    rw [← Option.some.inj hy]; exact hp
  · exact h m y (by omega) hy
theorem up_all {α : Type} {L : List α} {P : α → Prop} {N : Nat} (h : ∀ (m : Nat) (x : α), m < N → L[m]? = some x → P x) (hN : L.length ≤ N) : ∀ x ∈ L, P x := fun x hx => by
  obtain ⟨m, hm⟩ := List.mem_iff_getElem?.1 hx
  exact h m x (Nat.lt_of_lt_of_le (List.getElem?_eq_some_iff.1 hm).1 hN) hm
/-- A rule in memory. -/
theorem rule_at {W : World} {p : PP} {ua : Option Addr} {un : Nat} {Rs : List GRule} (hRS : Rw GRule.enc 3 W ua un Rs) (hRL : Rs.length = p.rules.length) (hRC : ∀ (i : Nat) (x : GRule) (r : PR), Rs[i]? = some x → p.rules[i]? = some r → RuleC W x r) {i : Nat} {r : PR} (hr : p.rules[i]? = some r) : ∃ (bu : Nat) (CU : List Value) (x : GRule), ua = some ⟨bu, 0, none⟩ ∧ blk W bu = some CU ∧ i * 3 + 3 ≤ CU.length ∧ seg CU (i * 3) 3 = GRule.enc x ∧ seg CU (i * 3) 2 = Atom.enc x.head ∧ nth CU (i * 3) = some (.int .i64 (r.head.pred : Int)) ∧ nth CU (i * 3 + 2) = some (.slice x.body.a x.body.len x.body.cap) ∧ RuleC W x r ∧ r.body.length = x.body.len := by
  have hi := (List.getElem?_eq_some_iff.1 hr).1
  obtain ⟨x, hx⟩ : ∃ x, Rs[i]? = some x := ⟨_, List.getElem?_eq_getElem (by rw [hRL]; exact hi)⟩
  obtain ⟨bu, CU, e1, e2, e3, e4⟩ := hRS.2 i x hx
  have hrc := hRC i x r hx hr
  have hun : i < un := by rw [← hRS.1, hRL]; exact hi
  have hm : (i + 1) * 3 ≤ un * 3 := Nat.mul_le_mul_right _ hun
  have hbl : r.body.length = x.body.len := by
    obtain ⟨-, Ls, h1, h2, -⟩ := hrc
    rw [← h2]; exact h1.1
  have hp : nth CU (i * 3) = some (.int .i64 (r.head.pred : Int)) := by
    have h9 := nth_in (j := 0) e4 (show nth (GRule.enc x) 0 = some (.int .i64 x.head.pred) from GRule.head_pred_get x) (by omega)
    rw [hrc.1.1] at h9
    exact h9
  have hs2 : seg CU (i * 3) 2 = Atom.enc x.head := by
    have h9 : seg (seg CU (i * 3) 3) 0 2 = Atom.enc x.head := by rw [e4]; exact GRule.head_get x
    rw [← h9]
    unfold seg
    rw [List.drop_zero, List.take_take, Nat.min_eq_left (by omega)]
  exact ⟨bu, CU, x, e1, e2, by omega, e4, hs2, hp, nth_in (j := 2) e4 (GRule.body_get x) (by omega), hrc, hbl⟩
set_option maxRecDepth 100000 in
theorem zframe278a (f : Nat → Value) : frameN 278 f = #[f 0, f 1, f 2, f 3, f 4, f 5, f 6, f 7, f 8, f 9, f 10, f 11, f 12, f 13, f 14, f 15, f 16, f 17, f 18, f 19, f 20, f 21, f 22, f 23, f 24, f 25, f 26, f 27, f 28, f 29, f 30, f 31, f 32, f 33, f 34, f 35, f 36, f 37, f 38, f 39, f 40, f 41, f 42, f 43, f 44, f 45, f 46, f 47, f 48, f 49, f 50, f 51, f 52, f 53, f 54, f 55, f 56, f 57, f 58, f 59, f 60, f 61, f 62, f 63, f 64, f 65, f 66, f 67, f 68, f 69, f 70, f 71, f 72, f 73, f 74, f 75, f 76, f 77, f 78, f 79, f 80, f 81, f 82, f 83, f 84, f 85, f 86, f 87, f 88, f 89, f 90, f 91, f 92, f 93, f 94, f 95, f 96, f 97, f 98, f 99, f 100, f 101, f 102, f 103, f 104, f 105, f 106, f 107, f 108, f 109, f 110, f 111, f 112, f 113, f 114, f 115, f 116, f 117, f 118, f 119, f 120, f 121, f 122, f 123, f 124, f 125, f 126, f 127, f 128, f 129, f 130, f 131, f 132, f 133, f 134, f 135, f 136, f 137, f 138, f 139, f 140, f 141, f 142, f 143, f 144, f 145, f 146, f 147, f 148, f 149, f 150, f 151, f 152, f 153, f 154, f 155, f 156, f 157, f 158, f 159, f 160, f 161, f 162, f 163, f 164, f 165, f 166, f 167, f 168, f 169, f 170, f 171, f 172, f 173, f 174, f 175, f 176, f 177, f 178, f 179, f 180, f 181, f 182, f 183, f 184, f 185, f 186, f 187, f 188, f 189, f 190, f 191, f 192, f 193, f 194, f 195, f 196, f 197, f 198, f 199, f 200, f 201, f 202, f 203, f 204, f 205, f 206, f 207, f 208, f 209, f 210, f 211, f 212, f 213, f 214, f 215, f 216, f 217, f 218, f 219, f 220, f 221, f 222, f 223, f 224, f 225, f 226, f 227, f 228, f 229, f 230, f 231, f 232, f 233, f 234, f 235, f 236, f 237, f 238, f 239, f 240, f 241, f 242, f 243, f 244, f 245, f 246, f 247, f 248, f 249, f 250, f 251, f 252, f 253, f 254, f 255, f 256, f 257, f 258, f 259, f 260, f 261, f 262, f 263, f 264, f 265, f 266, f 267, f 268, f 269, f 270, f 271, f 272, f 273, f 274, f 275, f 276, f 277] := by kernel_rfl
set_option maxRecDepth 40000 in
set_option maxHeartbeats 8000000 in
theorem acceptable_any (W : World) (b : Nat) (p : PP) (hp : ProgC W b p) (hLb : p.rules.length ≤ 1000000 ∧ p.preds.length ≤ 1000000) (hLn : ∀ r ∈ p.rules, Lens r) : Calls Tryz.prog 23 #[.pointer (some ⟨b, 0, none⟩)] W (AcPost W p) := by
  obtain ⟨Q, hQ⟩ : ∃ Q, Q = AcPost W p := ⟨_, rfl⟩
  rw [← hQ]
  have HQ := hid_of hQ
  have HLN := hid_of hLn
  have HPC := hid_of hp
  have HPO := hid_of hp.o
  obtain ⟨Ce, pa, pn, pc, qa, qn, qc, ua, un, uc, hb, hl4, k0, k1, k2, k3, k4, k5, Rs, k6, k7, k8⟩ := hp.o.cells
  simp only [Nat.zero_add] at k0 k1 k2 k3
  have HB := hid_of hb
  have HPR := hid_of k5
  have HRS := hid_of k6
  have HRL : Hid (Rs.length = p.rules.length) := k7
  have HRC := hid_of k8
  have hun : un = p.rules.length := by rw [← k7]; exact k6.1.symm
  have HUN := hid_of hun
  have hqn : p.preds.length = qn := k5.1
  have HQN := hid_of hqn
  have hpn : p.pool.length = pn := k4.1
  have HPN := hid_of hpn
  have l0 : 0 < Ce.length := by omega
  have l1 : 1 < Ce.length := by omega
  have l2 : 2 < Ce.length := by omega
  have HFIN : Hid (∀ V c, AcR p c → W.Extends V → Q (.returned (.int .i64 c)) V) := fun V c h1 h2 => by
    rw [HQ.out]; exact ⟨c, rfl, h1, h2⟩
  have hub0 : un ≤ 1000000 := by have := hLb; omega
  have hqb0 : qn ≤ 1000000 := by omega
  clear hQ k3 k4 k5 k6 k7 k8 hun hqn hpn hl4 hLn
  go_enter Tryz.func23, Tryz.ntmps23
  by_cases h256 : pn ≤ 256
  rotate_left 1
  · have a1 : (pn : Int) > 256 := by omega
    have a2 : (256 : Int) < (pn : Int) := by omega
    have HP := hid_of (HFIN.out W 24 (AcR.lim (by unfold limB; rw [decide_eq_false (by rw [HPN.out]; exact h256)]; rfl)) (ext_Ext (Ext.refl _)))
    clear hp
    go_wp2_with fail
    try go_ret
    exact HP.out
  have a1 : ¬ (pn : Int) > 256 := by omega
  have a2 : ¬ (256 : Int) < (pn : Int) := by omega
  by_cases h64 : qn ≤ 64
  rotate_left 1
  · have b1 : (qn : Int) > 64 := by omega
    have b2 : (64 : Int) < (qn : Int) := by omega
    have HP := hid_of (HFIN.out W 24 (AcR.lim (by unfold limB; rw [decide_eq_true (by rw [HPN.out]; exact h256), decide_eq_false (by rw [HQN.out]; exact h64)]; rfl)) (ext_Ext (Ext.refl _)))
    clear hp
    go_wp2_with fail
    try go_ret
    exact HP.out
  have b1 : ¬ (qn : Int) > 64 := by omega
  have b2 : ¬ (64 : Int) < (qn : Int) := by omega
  by_cases h128 : un ≤ 128
  rotate_left 1
  · have e1 : (un : Int) > 128 := by omega
    have e2 : (128 : Int) < (un : Int) := by omega
    have HP := hid_of (HFIN.out W 24 (AcR.lim (by unfold limB; rw [decide_eq_true (by rw [HPN.out]; exact h256), decide_eq_true (by rw [HQN.out]; exact h64), decide_eq_false (by rw [← HUN.out]; exact h128)]; rfl)) (ext_Ext (Ext.refl _)))
    clear hp
    go_wp2_with fail
    try go_ret
    exact HP.out
  have e1 : ¬ (un : Int) > 128 := by omega
  have e2 : ¬ (128 : Int) < (un : Int) := by omega
  have HLIM : Hid (limB p = (p.preds.all (fun x => decide (x.arity ≤ 4)) && p.rules.all (fun r => decide (r.body.length ≤ 8)))) := by
    show _ = _
    unfold limB
    rw [decide_eq_true (by rw [HPN.out]; exact h256), decide_eq_true (by rw [HQN.out]; exact h64), decide_eq_true (by rw [← HUN.out]; exact h128)]
    rfl
  clear hp
  go_upto_region 4 with fail
  refine wp_loop_f 278 (zAc W (.pointer (some ⟨b, 0, none⟩)) 3 qn p.preds (fun x => x.arity ≤ 4)) (fun f _ => qn - (intOf (f 3)).toNat) rfl ⟨rfl, 0, by omega, rfl, ⟨ext_Ext (Ext.refl _), fun m x hm => by omega⟩⟩ ?_
  intro F1 V1 hrel
  obtain ⟨f0, i, hi, fj, HI⟩ := hrel
  have H3 := hid_of fj
  rw [zframe278a, f0, fj]
  clear f0 fj
  obtain ⟨hx, hall⟩ := HI.out
  have HXV := hid_of hx
  have HALL := hid_of hall
  have hbV : blk V1 b = some Ce := (hx.blk (blk_lt HB.out)).trans HB.out
  clear HI hx hall

  by_cases hin : i < qn
  · have hin' : (i : Int) < (qn : Int) := by omega
    have i0 : (0 : Int) ≤ (i : Int) := by omega
    have i2 : ((i : Int)).toNat = i := by omega
    obtain ⟨y, hy⟩ : ∃ y, p.preds[i]? = some y := ⟨_, List.getElem?_eq_getElem (by rw [HQN.out]; exact hin)⟩
    obtain ⟨bq, CQ, eqa, v1, v2, v3⟩ := HPR.out.2 i y hy
    subst eqa
    have hm : (i + 1) * 3 ≤ qn * 3 := Nat.mul_le_mul_right _ hin
    have w0 : nth CQ (i * 3) = some (.int .i64 y.arity) := nth_in (j := 0) v3 rfl (by omega)
    have w1 : i * 3 < CQ.length := by omega
    have hbq : blk V1 bq = some CQ := (HXV.out.blk (blk_lt v1)).trans v1
    have HYY := hid_of hy
    clear hy v1 v3 v2 hm
    by_cases h4 : y.arity ≤ 4
    · have c1 : ¬ y.arity > 4 := by omega
      have c2 : ¬ (4 : Int) < y.arity := by omega
      have HJ : Hid (W.Extends V1 ∧ ∀ (m : Nat) (x : PredInfo), m < i + 1 → p.preds[m]? = some x → x.arity ≤ 4) := ⟨HXV.out, up_one HALL.out HYY.out h4⟩
      clear HALL
      go_wp2_with fail
      refine ⟨rfl, rfl, ⟨rfl, i + 1, by omega, ?_, HJ⟩, ?_⟩
      · show Value.int .i64 _ = _
        go_num
      · show qn - (intOf (Value.int .i64 _)).toNat < qn - (intOf (F1 3)).toNat
        rw [H3.out]
        simp [intOf]; omega

    · have c1 : y.arity > 4 := by omega
      have c2 : (4 : Int) < y.arity := by omega
      have HP := hid_of (HFIN.out V1 24 (AcR.lim (by rw [HLIM.out, all_not HYY.out (decide_eq_false h4)]; rfl)) HXV.out)
      clear HALL
      go_wp2_with fail
      try go_ret
      exact HP.out
  have hin' : ¬ (i : Int) < (qn : Int) := by omega
  have HARY : Hid (p.preds.all (fun x => decide (x.arity ≤ 4)) = true) := by
    show _ = _
    rw [List.all_eq_true]
    exact fun y hy => decide_eq_true (up_all HALL.out (by rw [HQN.out]; omega) y hy)
  clear HALL
  go_upto_region 9 with fail
  refine wp_loop_f 278 (zAc W (.pointer (some ⟨b, 0, none⟩)) 4 un p.rules (fun r => r.body.length ≤ 8)) (fun f _ => un - (intOf (f 4)).toNat) rfl ⟨rfl, 0, by omega, rfl, ⟨HXV.out, fun m x hm => by omega⟩⟩ ?_
  clear hbV hin' hin H3 HXV hi
  intro F2 V2 hrel
  obtain ⟨f0, i, hi, fj, HI⟩ := hrel
  have H4 := hid_of fj
  rw [zframe278a, f0, fj]
  clear f0 fj
  obtain ⟨hx, hall⟩ := HI.out
  have HXV := hid_of hx
  have HALL := hid_of hall
  have hbV : blk V2 b = some Ce := (hx.blk (blk_lt HB.out)).trans HB.out
  clear HI hx hall

  by_cases hin : i < un
  · have hin' : (i : Int) < (un : Int) := by omega
    obtain ⟨r, hr⟩ : ∃ r, p.rules[i]? = some r := ⟨_, List.getElem?_eq_getElem (by rw [← HUN.out]; exact hin)⟩
    obtain ⟨bu, CU, x, eua, u1, u2, u3, u4, u5, u6, u7, u8⟩ := rule_at HRS.out HRL.out HRC.out hr
    subst eua
    have HRR := hid_of hr
    have HU1 := hid_of u1
    have HU7 := hid_of u7
    have HU8 := hid_of u8
    have r0 : (0 : Int) ≤ (i : Int) := by omega
    have r2 : ((i : Int)).toNat = i := by omega
    have r3 : i * 3 < CU.length := by omega
    have r4 : i * 3 + 2 < CU.length := by omega
    have r5 : i * 3 + 2 ≤ CU.length := by omega
    have r6 : i * 3 + 3 ≤ CU.length := u2
    obtain ⟨xh, xa, xn, xc⟩ := x
    dsimp only at u4 u6 u8
    have hbu : blk V2 bu = some CU := (HXV.out.blk (blk_lt u1)).trans u1

    clear hr u1 u2 u3 u4 u5 u7 u8
    by_cases h8 : xn ≤ 8
    · have c1 : ¬ (xn : Int) > 8 := by omega
      have c2 : ¬ (8 : Int) < (xn : Int) := by omega
      have HJ : Hid (W.Extends V2 ∧ ∀ (m : Nat) (x : PR), m < i + 1 → p.rules[m]? = some x → x.body.length ≤ 8) := ⟨HXV.out, up_one HALL.out HRR.out (by rw [HU8.out]; exact h8)⟩
      clear HALL
      go_wp2_with fail
      refine ⟨rfl, rfl, ⟨rfl, i + 1, by omega, ?_, HJ⟩, ?_⟩
      · show Value.int .i64 _ = _
        go_num
      · show un - (intOf (Value.int .i64 _)).toNat < un - (intOf (F2 4)).toNat
        rw [H4.out]
        simp [intOf]; omega

    · have c1 : (xn : Int) > 8 := by omega
      have c2 : (8 : Int) < (xn : Int) := by omega
      have HP := hid_of (HFIN.out V2 24 (AcR.lim (by rw [HLIM.out, HARY.out, all_not HRR.out (decide_eq_false (by rw [HU8.out]; exact h8))]; rfl)) HXV.out)
      clear HALL
      go_wp2_with fail
      try go_ret
      exact HP.out
  have hin' : ¬ (i : Int) < (un : Int) := by omega
  have HLM : Hid (limB p = true) := by
    show _ = _
    rw [HLIM.out, HARY.out, Bool.true_and, List.all_eq_true]
    exact fun y hy => decide_eq_true (up_all HALL.out (by rw [← HUN.out]; omega) y hy)
  have HB8 : Hid (∀ r ∈ p.rules, r.body.length ≤ 8) := up_all HALL.out (by rw [← HUN.out]; omega)
  clear HALL HLIM HARY
  go_upto_region 14 with fail
  refine wp_loop_f 278 (zAc W (.pointer (some ⟨b, 0, none⟩)) 5 un p.rules (fun r => rlB p r = true)) (fun f _ => un - (intOf (f 5)).toNat) rfl ⟨rfl, 0, by omega, rfl, ⟨HXV.out, fun m x hm => by omega⟩⟩ ?_
  clear hbV hin' hin H4 HXV hi
  intro F3 V3 hrel
  obtain ⟨f0, i, hi, fj, HI⟩ := hrel
  have H5 := hid_of fj
  rw [zframe278a, f0, fj]
  clear f0 fj
  obtain ⟨hx, hall⟩ := HI.out
  have HXV := hid_of hx
  have HALL := hid_of hall
  have hbV : blk V3 b = some Ce := (hx.blk (blk_lt HB.out)).trans HB.out
  clear HI hx hall

  by_cases hin : i < un
  · have hin' : (i : Int) < (un : Int) := by omega
    obtain ⟨r, hr⟩ : ∃ r, p.rules[i]? = some r := ⟨_, List.getElem?_eq_getElem (by rw [← HUN.out]; exact hin)⟩
    obtain ⟨bu, CU, x, eua, u1, u2, u3, u4, u5, u6, u7, u8⟩ := rule_at HRS.out HRL.out HRC.out hr
    subst eua
    have HRR := hid_of hr
    have HU1 := hid_of u1
    have HU7 := hid_of u7
    have HU8 := hid_of u8
    have r0 : (0 : Int) ≤ (i : Int) := by omega
    have r2 : ((i : Int)).toNat = i := by omega
    have r3 : i * 3 < CU.length := by omega
    have r4 : i * 3 + 2 < CU.length := by omega
    have r5 : i * 3 + 2 ≤ CU.length := by omega
    have r6 : i * 3 + 3 ≤ CU.length := u2
    obtain ⟨xh, xa, xn, xc⟩ := x
    dsimp only at u4 u6 u8
    have hbu : blk V3 bu = some CU := (HXV.out.blk (blk_lt u1)).trans u1
    obtain ⟨HE9, eHE9⟩ : ∃ HE9, HE9 = xh.enc := ⟨_, rfl⟩
    rw [← eHE9] at u4
    have EHE := hid_of eHE9
    obtain ⟨XE9, eXE9⟩ : ∃ XE9, XE9 = GRule.enc ⟨xh, ⟨xa, xn, xc⟩⟩ := ⟨_, rfl⟩
    rw [← eXE9] at u3
    have EXE := hid_of eXE9
    clear eHE9 eXE9

    have hLr := HLN.out r (List.mem_of_getElem? hr)
    have HLR := hid_of hLr
    have hft := fitsTable_any (progC_ext HPC.out HXV.out) xh r.head (HU7.out.1.ext HXV.out) hLr.1
    rw [← EHE.out] at hft
    have hxb : xn ≤ 1000 := by have := hLr.2.1; omega
    clear hr u1 u2 u3 u5 u7 u8 hLr
    cases hah : atB p r.head with
    | false =>
      rw [hah] at hft
      have HP : Hid (∀ V, W.Extends V → Q (.returned (.int .i64 25)) V) := fun V h9 => HFIN.out V 25 (AcR.fit HLM.out (all_not HRR.out (by unfold rlB; rw [hah]; rfl))) h9
      clear hah HALL
      go_wp2_with fail
      refine hft.mono ?_
      rintro e V4 ⟨rfl, hx4⟩
      dsimp only
      have HP4 := hid_of (HP.out V4 (HXV.out.trans hx4))
      clear hft hx4
      go_wp2_with fail
      try go_ret
      exact HP4.out
    | true =>
      rw [hah] at hft
      have HAH := hid_of hah
      clear hah
      go_wp2_with fail
      refine hft.mono ?_
      rintro e V4 ⟨rfl, hx4⟩
      dsimp only
      have HX4 : Hid (W.Extends V4) := HXV.out.trans hx4
      have hbV4 : blk V4 b = some Ce := (HX4.out.blk (blk_lt HB.out)).trans HB.out
      have hbu4 : blk V4 bu = some CU := (HX4.out.blk (blk_lt HU1.out)).trans HU1.out
      clear hft hx4 hbV hbu
      go_upto_region 19 with fail
      refine wp_loop_f 278 (zAd W (.pointer (some ⟨b, 0, none⟩)) 5 i 6 xn r.body (fun l => atB p l.atom = true)) (fun f _ => xn - (intOf (f 6)).toNat) rfl ⟨rfl, rfl, 0, by omega, rfl, ⟨HX4.out, fun m x hm => by omega⟩⟩ ?_
      clear hbV4 hbu4 HX4
      intro F4 V5 hrel
      obtain ⟨f0, fo, k, hk, fj, HI⟩ := hrel
      have H6 := hid_of fj
      rw [zframe278a, f0, fo, fj]
      clear f0 fo fj
      obtain ⟨hx, hall⟩ := HI.out
      have HXW := hid_of hx
      have HALK := hid_of hall
      have hbW : blk V5 b = some Ce := (hx.blk (blk_lt HB.out)).trans HB.out
      have hbu2 : blk V5 bu = some CU := (hx.blk (blk_lt HU1.out)).trans HU1.out
      clear HI hx hall

      by_cases hkn : k < xn
      rotate_left 1
      · have hkn' : ¬ (k : Int) < (xn : Int) := by omega
        have HJ : Hid (W.Extends V5 ∧ ∀ (m : Nat) (x : PR), m < i + 1 → p.rules[m]? = some x → rlB p x = true) := by
          refine ⟨HXW.out, up_one HALL.out HRR.out ?_⟩
          unfold rlB
          rw [HAH.out, Bool.true_and, List.all_eq_true]
          exact up_all HALK.out (by rw [HU8.out]; omega)
        clear HALL HALK
        go_wp2_with fail
        refine ⟨rfl, rfl, ⟨rfl, i + 1, by omega, ?_, HJ⟩, ?_⟩
        · show Value.int .i64 _ = _
          go_num
        · show un - (intOf (Value.int .i64 _)).toNat < un - (intOf (F3 5)).toNat
          rw [H5.out]
          simp [intOf]; omega

      have hkn' : (k : Int) < (xn : Int) := by omega
      obtain ⟨z, hz⟩ : ∃ z, r.body[k]? = some z := ⟨_, List.getElem?_eq_getElem (by rw [HU8.out]; exact hkn)⟩
      obtain ⟨bl, CL, l, exa, g1, g2, g3, g4, g5, g6⟩ := lit_at HU7.out hz
      dsimp only at exa
      subst exa
      have HZZ := hid_of hz
      have HG6 := hid_of g6
      have k0' : (0 : Int) ≤ (k : Int) := by omega
      have k2' : ((k : Int)).toNat = k := by omega
      have kd1 : k * 3 < CL.length := by omega
      have kd2 : k * 3 + 1 < CL.length := by omega
      have kd3 : k * 3 + 1 + 2 ≤ CL.length := by omega
      have hbl : blk V5 bl = some CL := (HXW.out.blk (blk_lt g1)).trans g1
      obtain ⟨LE, eLE⟩ : ∃ LE, LE = l.enc := ⟨_, rfl⟩
      rw [← eLE] at g5
      have ELE := hid_of eLE
      obtain ⟨zn, ezn⟩ : ∃ zn, zn = z.neg := ⟨_, rfl⟩
      rw [← ezn] at g3
      have EZN := hid_of ezn
      clear hz g1 g6 eLE ezn g2

      have hft := fitsTable_any (progC_ext HPC.out HXW.out) l z.atom (HG6.out.ext HXW.out) (HLR.out.2.2 z (List.mem_of_getElem? HZZ.out))
      rw [← ELE.out] at hft
      cases hal : atB p z.atom with
      | false =>
        rw [hal] at hft
        have HP : Hid (∀ V, W.Extends V → Q (.returned (.int .i64 25)) V) := fun V h9 => HFIN.out V 25 (AcR.fit HLM.out (all_not HRR.out (by unfold rlB; rw [all_not HZZ.out hal, Bool.and_false]))) h9
        clear hal HALL HALK
        go_wp2_with fail
        refine hft.mono ?_
        rintro e V6 ⟨rfl, hx6⟩
        dsimp only
        have HP4 := hid_of (HP.out V6 (HXW.out.trans hx6))
        clear hft hx6
        go_wp2_with fail
        try go_ret
        exact HP4.out
      | true =>
        rw [hal] at hft
        have HUP : Hid (∀ V, W.Extends V → (W.Extends V ∧ ∀ (m : Nat) (x : PL), m < k + 1 → r.body[m]? = some x → atB p x.atom = true)) := fun V h9 => ⟨h9, up_one HALK.out HZZ.out hal⟩
        clear hal HALL HALK
        go_wp2_with fail
        refine hft.mono ?_
        rintro e V6 ⟨rfl, hx6⟩
        dsimp only
        have HJ := hid_of (HUP.out V6 (HXW.out.trans hx6))
        clear hft hx6 HUP
        go_wp2_with fail
        refine ⟨rfl, rfl, ⟨rfl, rfl, k + 1, by omega, ?_, HJ⟩, ?_⟩
        · show Value.int .i64 _ = _
          go_num
        · show xn - (intOf (Value.int .i64 _)).toNat < xn - (intOf (F4 6)).toNat
          rw [H6.out]
          simp [intOf]; omega

  have hin' : ¬ (i : Int) < (un : Int) := by omega
  have HFT : Hid (∀ r ∈ p.rules, rlB p r = true) := up_all HALL.out (by rw [← HUN.out]; omega)
  have HFA : Hid (p.rules.all (rlB p) = true) := by show _ = _; rw [List.all_eq_true]; exact HFT.out
  clear HALL
  go_upto_region 24 with fail
  refine wp_loop_f 278 (zAc W (.pointer (some ⟨b, 0, none⟩)) 7 un p.rules (fun r => basH p r = false)) (fun f _ => un - (intOf (f 7)).toNat) rfl ⟨rfl, 0, by omega, rfl, ⟨HXV.out, fun m x hm => by omega⟩⟩ ?_
  clear hbV hin' hin H5 HXV hi
  intro F5 V7 hrel
  obtain ⟨f0, i, hi, fj, HI⟩ := hrel
  have H7 := hid_of fj
  rw [zframe278a, f0, fj]
  clear f0 fj
  obtain ⟨hx, hall⟩ := HI.out
  have HXV := hid_of hx
  have HALL := hid_of hall
  have hbV : blk V7 b = some Ce := (hx.blk (blk_lt HB.out)).trans HB.out
  clear HI hx hall

  by_cases hin : i < un
  · have hin' : (i : Int) < (un : Int) := by omega
    obtain ⟨r, hr⟩ : ∃ r, p.rules[i]? = some r := ⟨_, List.getElem?_eq_getElem (by rw [← HUN.out]; exact hin)⟩
    obtain ⟨bu, CU, x, eua, u1, u2, u3, u4, u5, u6, u7, u8⟩ := rule_at HRS.out HRL.out HRC.out hr
    subst eua
    have HRR := hid_of hr
    have HU1 := hid_of u1
    have HU7 := hid_of u7
    have HU8 := hid_of u8
    have r0 : (0 : Int) ≤ (i : Int) := by omega
    have r2 : ((i : Int)).toNat = i := by omega
    have r3 : i * 3 < CU.length := by omega
    have r4 : i * 3 + 2 < CU.length := by omega
    have r5 : i * 3 + 2 ≤ CU.length := by omega
    have r6 : i * 3 + 3 ≤ CU.length := u2
    obtain ⟨xh, xa, xn, xc⟩ := x
    dsimp only at u4 u6 u8
    have hbu : blk V7 bu = some CU := (HXV.out.blk (blk_lt u1)).trans u1

    have hpl : r.head.pred < p.preds.length := by
      have h9 := HFT.out r (List.mem_of_getElem? hr)
      unfold rlB atB at h9
      simp only [Bool.and_eq_true, decide_eq_true_eq] at h9
      exact h9.1.1
    obtain ⟨bq, CQ, eqa, v1, v2, v3⟩ := HPR.out.2 r.head.pred _ (pI_at hpl)
    subst eqa
    have hpq : r.head.pred < qn := by rw [← HQN.out]; exact hpl
    have hm : (r.head.pred + 1) * 3 ≤ qn * 3 := Nat.mul_le_mul_right _ hpq
    have w0 : nth CQ (r.head.pred * 3 + 1) = some (.bool (basH p r)) := nth_in (j := 1) v3 rfl (by omega)
    have w1 : r.head.pred * 3 + 1 < CQ.length := by omega
    have hbq : blk V7 bq = some CQ := (HXV.out.blk (blk_lt v1)).trans v1
    obtain ⟨pr, epr⟩ : ∃ pr, pr = r.head.pred := ⟨_, rfl⟩
    rw [← epr] at w0 w1 u5 hpq
    have p1 : (0 : Int) ≤ (pr : Int) := by omega
    have p2 : ((pr : Int)).toNat = pr := by omega
    have p3 : (pr : Int) < (qn : Int) := by omega
    clear hr u1 u2 u3 u4 u7 u8 v1 v2 v3 hm epr hpl
    cases hbs : basH p r with
    | true =>
      rw [hbs] at w0
      have HP : Hid (∀ q, Q (.returned (.int .i64 26)) (V7.drewN q)) := fun q => HFIN.out _ 26 (AcR.bas HLM.out HFA.out (any_yes HRR.out hbs)) (extends_drewN HXV.out q)
      clear hbs HALL
      go_upto_region 26 with fail
      go_quiet (fail)
      go_wp2_with fail
      try go_ret
      exact HP.out _
    | false =>
      rw [hbs] at w0
      have HJ : Hid (∀ q, W.Extends (V7.drewN q) ∧ ∀ (m : Nat) (x : PR), m < i + 1 → p.rules[m]? = some x → basH p x = false) := fun q => ⟨extends_drewN HXV.out q, up_one HALL.out HRR.out hbs⟩
      clear hbs HALL
      go_upto_region 26 with fail
      go_quiet (fail)
      go_wp2_with fail
      refine ⟨rfl, rfl, ⟨rfl, i + 1, by omega, ?_, HJ.out _⟩, ?_⟩
      · show Value.int .i64 _ = _
        go_num
      · show un - (intOf (Value.int .i64 _)).toNat < un - (intOf (F5 7)).toNat
        rw [H7.out]
        simp [intOf]; omega

  have hin' : ¬ (i : Int) < (un : Int) := by omega
  have HNB : Hid (p.rules.any (basH p) = false) := by
    show _ = _
    rw [List.any_eq_false]
    exact fun y hy => by rw [up_all HALL.out (by rw [← HUN.out]; omega) y hy]; decide
  clear HALL
  go_upto_region 29 with fail
  refine wp_loop_f 278 (zAc W (.pointer (some ⟨b, 0, none⟩)) 8 un p.rules (fun r => resB r = true)) (fun f _ => un - (intOf (f 8)).toNat) rfl ⟨rfl, 0, by omega, rfl, ⟨HXV.out, fun m x hm => by omega⟩⟩ ?_
  clear hbV hin' hin H7 HXV hi
  intro F6 V8 hrel
  obtain ⟨f0, i, hi, fj, HI⟩ := hrel
  have H8 := hid_of fj
  rw [zframe278a, f0, fj]
  clear f0 fj
  obtain ⟨hx, hall⟩ := HI.out
  have HXV := hid_of hx
  have HALL := hid_of hall
  have hbV : blk V8 b = some Ce := (hx.blk (blk_lt HB.out)).trans HB.out
  clear HI hx hall

  by_cases hin : i < un
  · have hin' : (i : Int) < (un : Int) := by omega
    obtain ⟨r, hr⟩ : ∃ r, p.rules[i]? = some r := ⟨_, List.getElem?_eq_getElem (by rw [← HUN.out]; exact hin)⟩
    obtain ⟨bu, CU, x, eua, u1, u2, u3, u4, u5, u6, u7, u8⟩ := rule_at HRS.out HRL.out HRC.out hr
    subst eua
    have HRR := hid_of hr
    have HU1 := hid_of u1
    have HU7 := hid_of u7
    have HU8 := hid_of u8
    have r0 : (0 : Int) ≤ (i : Int) := by omega
    have r2 : ((i : Int)).toNat = i := by omega
    have r3 : i * 3 < CU.length := by omega
    have r4 : i * 3 + 2 < CU.length := by omega
    have r5 : i * 3 + 2 ≤ CU.length := by omega
    have r6 : i * 3 + 3 ≤ CU.length := u2
    obtain ⟨xh, xa, xn, xc⟩ := x
    dsimp only at u4 u6 u8
    have hbu : blk V8 bu = some CU := (HXV.out.blk (blk_lt u1)).trans u1
    obtain ⟨HE9, eHE9⟩ : ∃ HE9, HE9 = xh.enc := ⟨_, rfl⟩
    rw [← eHE9] at u4
    have EHE := hid_of eHE9
    obtain ⟨XE9, eXE9⟩ : ∃ XE9, XE9 = GRule.enc ⟨xh, ⟨xa, xn, xc⟩⟩ := ⟨_, rfl⟩
    rw [← eXE9] at u3
    have EXE := hid_of eXE9
    clear eHE9 eXE9

    have hLr := HLN.out r (List.mem_of_getElem? hr)
    have HLR := hid_of hLr
    have hbd := bound_any V8.drew ⟨xh, ⟨xa, xn, xc⟩⟩ r (HU7.out.ext (extends_drew HXV.out)) hLr xh r.head (HU7.out.1.ext (extends_drew HXV.out)) hLr.1
    rw [← EHE.out, ← EXE.out, bndB_cov] at hbd
    have hxb : xn ≤ 1000 := by have := hLr.2.1; omega
    clear hr u1 u2 u5 u7 u8 hLr
    obtain ⟨hv, ehv⟩ : ∃ hv, hv = covB r r.head := ⟨_, rfl⟩
    rw [← ehv] at hbd
    have EHV := hid_of ehv
    clear ehv
    go_upto_region 31 with fail
    repeat go_step
    refine wp_region_held_drew (S := fun W' => blk W' b = some Ce ∧ blk W' bu = some CU) (by kernel_rfl) ⟨hbV, hbu⟩ (fun hHeld => ?_)
    refine wpAnyH_take (i := 0) (oi := ⟨_, _, _, _, _, _⟩) (v := ?_) rfl (by kernel_rfl) (by kernel_rfl) (by kernel_rfl) (fun _ _ _ h => h) (Or.inl ⟨by rfl, ?_⟩) (by assumption) ?_
    rotate_left 1
    · intro W' hSw
      obtain ⟨hS1, hS2⟩ := hSw
      go_simp
      try with_reducible rfl
    try simp only [Act.put, List.setIfInBounds_toArray, List.set_cons_zero, List.set_cons_succ]
    refine wpAnyH_take (i := 1) (oi := ⟨_, _, _, _, _, _⟩) (v := ?_) rfl (by kernel_rfl) (by kernel_rfl) (by kernel_rfl) (fun _ _ _ h => h) (Or.inl ⟨by rfl, ?_⟩) (by assumption) ?_
    rotate_left 1
    · intro W' hSw
      obtain ⟨hS1, hS2⟩ := hSw
      go_simp
      try with_reducible rfl
    try simp only [Act.put, List.setIfInBounds_toArray, List.set_cons_zero, List.set_cons_succ]
    refine wpAnyH_take (i := 2) (oi := ⟨_, _, _, _, _, _⟩) (v := ?_) rfl (by kernel_rfl) (by kernel_rfl) (by kernel_rfl) (fun _ _ _ h => h) (Or.inl ⟨by rfl, ?_⟩) (by assumption) ?_
    rotate_left 1
    · intro W' hSw
      obtain ⟨hS1, hS2⟩ := hSw
      go_simp
      try with_reducible rfl
    try simp only [Act.put, List.setIfInBounds_toArray, List.set_cons_zero, List.set_cons_succ]
    refine wpAnyH_take (i := 3) (oi := ⟨_, _, _, _, _, _⟩) (v := ?_) rfl (by kernel_rfl) (by kernel_rfl) (by kernel_rfl) (fun _ _ _ h => h) (Or.inl ⟨by rfl, ?_⟩) (by assumption) ?_
    rotate_left 1
    · intro W' hSw
      obtain ⟨hS1, hS2⟩ := hSw
      go_simp
      try with_reducible rfl
    try simp only [Act.put, List.setIfInBounds_toArray, List.set_cons_zero, List.set_cons_succ]
    refine wpAnyH_take (i := 4) (oi := ⟨_, _, _, _, _, _⟩) (v := ?_) rfl (by kernel_rfl) (by kernel_rfl) (by kernel_rfl) (fun _ _ _ h => h) (Or.inl ⟨by rfl, ?_⟩) (by assumption) ?_
    rotate_left 1
    · intro W' hSw
      obtain ⟨hS1, hS2⟩ := hSw
      go_simp
      try with_reducible rfl
    try simp only [Act.put, List.setIfInBounds_toArray, List.set_cons_zero, List.set_cons_succ]
    refine wpAnyH_take (i := 5) (oi := ⟨_, _, _, _, _, _⟩) (v := ?_) rfl (by kernel_rfl) (by kernel_rfl) (by kernel_rfl) (fun _ _ _ h => h) (Or.inl ⟨by rfl, ?_⟩) (by assumption) ?_
    rotate_left 1
    · intro W' hSw
      obtain ⟨hS1, hS2⟩ := hSw
      go_simp
      try with_reducible rfl
    try simp only [Act.put, List.setIfInBounds_toArray, List.set_cons_zero, List.set_cons_succ]
    refine wpAnyH_take (i := 6) (oi := ⟨_, _, _, _, _, _⟩) (v := ?_) rfl (by kernel_rfl) (by kernel_rfl) (by kernel_rfl) (fun _ _ _ h => h) (Or.inl ⟨by rfl, ?_⟩) (by assumption) ?_
    rotate_left 1
    · intro W' hSw
      obtain ⟨hS1, hS2⟩ := hSw
      go_simp
      try with_reducible rfl
    try simp only [Act.put, List.setIfInBounds_toArray, List.set_cons_zero, List.set_cons_succ]
    refine wpAnyH_take (i := 7) (oi := ⟨_, _, _, _, _, _⟩) (v := ?_) rfl (by kernel_rfl) (by kernel_rfl) (by kernel_rfl) (fun _ _ _ h => h) (Or.inl ⟨by rfl, ?_⟩) (by assumption) ?_
    rotate_left 1
    · intro W' hSw
      obtain ⟨hS1, hS2⟩ := hSw
      go_simp
      try with_reducible rfl
    try simp only [Act.put, List.setIfInBounds_toArray, List.set_cons_zero, List.set_cons_succ]
    refine wpAnyH_take (i := 8) (oi := ⟨_, _, _, _, _, _⟩) (v := ?_) rfl (by kernel_rfl) (by kernel_rfl) (by kernel_rfl) (fun _ _ _ h => h) (Or.inl ⟨by rfl, ?_⟩) (by assumption) ?_
    rotate_left 1
    · intro W' hSw
      obtain ⟨hS1, hS2⟩ := hSw
      go_simp
      try with_reducible rfl
    try simp only [Act.put, List.setIfInBounds_toArray, List.set_cons_zero, List.set_cons_succ]
    refine wpAnyH_take (i := 9) (oi := ⟨_, _, _, _, _, _⟩) (v := ?_) rfl (by kernel_rfl) (by kernel_rfl) (by kernel_rfl) (fun _ _ _ h => h) (Or.inl ⟨by rfl, ?_⟩) (by assumption) ?_
    rotate_left 1
    · intro W' hSw
      obtain ⟨hS1, hS2⟩ := hSw
      go_simp
      try with_reducible rfl
    try simp only [Act.put, List.setIfInBounds_toArray, List.set_cons_zero, List.set_cons_succ]
    refine wpAnyH_take (i := 10) (oi := ⟨_, _, _, _, _, _⟩) (v := ?_) rfl (by kernel_rfl) (by kernel_rfl) (by kernel_rfl) (fun _ _ _ h => h) (Or.inl ⟨by rfl, ?_⟩) (by assumption) ?_
    rotate_left 1
    · intro W' hSw
      obtain ⟨hS1, hS2⟩ := hSw
      go_simp
      try with_reducible rfl
    try simp only [Act.put, List.setIfInBounds_toArray, List.set_cons_zero, List.set_cons_succ]
    refine wpAnyH_take (i := 11) (oi := ⟨_, _, _, _, _, _⟩) (v := ?_) rfl (by kernel_rfl) (by kernel_rfl) (by kernel_rfl) (fun _ _ _ h => h) (Or.inl ⟨by rfl, ?_⟩) (by assumption) ?_
    rotate_left 1
    · intro W' hSw
      obtain ⟨hS1, hS2⟩ := hSw
      go_simp
      try with_reducible rfl
    try simp only [Act.put, List.setIfInBounds_toArray, List.set_cons_zero, List.set_cons_succ]
    refine wpAnyH_take (i := 12) (oi := ⟨_, _, _, _, _, _⟩) (v := ?_) rfl (by kernel_rfl) (by kernel_rfl) (by kernel_rfl) (fun _ _ _ h => h) (Or.inl ⟨by rfl, ?_⟩) (by assumption) ?_
    rotate_left 1
    · intro W' hSw
      obtain ⟨hS1, hS2⟩ := hSw
      go_simp
      try with_reducible rfl
    try simp only [Act.put, List.setIfInBounds_toArray, List.set_cons_zero, List.set_cons_succ]
    refine wpAnyH_take (i := 13) (oi := ⟨_, _, _, _, _, _⟩) (v := ?_) rfl (by kernel_rfl) (by kernel_rfl) (by kernel_rfl) (fun _ _ _ h => h) (Or.inl ⟨by rfl, ?_⟩) (by assumption) ?_
    rotate_left 1
    · intro W' hSw
      obtain ⟨hS1, hS2⟩ := hSw
      go_simp
      try with_reducible rfl
    try simp only [Act.put, List.setIfInBounds_toArray, List.set_cons_zero, List.set_cons_succ]
    refine wpAnyH_take (i := 14) (oi := ⟨_, _, _, _, _, _⟩) (v := ?_) rfl (by kernel_rfl) (by kernel_rfl) (by kernel_rfl) (fun _ _ _ h => h) (Or.inl ⟨by rfl, ?_⟩) (by assumption) ?_
    rotate_left 1
    · intro W' hSw
      obtain ⟨hS1, hS2⟩ := hSw
      go_simp
      try with_reducible rfl
    try simp only [Act.put, List.setIfInBounds_toArray, List.set_cons_zero, List.set_cons_succ]
    refine wpAnyH_ready (rs := [15]) (by kernel_rfl) (by simp) ?_
    refine AllReadyH.cons (o := ⟨_, _, _, _, _, _⟩) rfl (fun K' hK => ?_) AllReadyH.nil
    go_simp
    refine hbd.mono ?_
    rintro e V9 ⟨rfl, hx9⟩
    dsimp only
    refine hK.out _ _ ⟨(hx9.blk (blk_lt (w := V8.drew) hbV)).trans hbV, (hx9.blk (blk_lt (w := V8.drew) hbu)).trans hbu⟩ (fun hHeld => ?_)
    clear hK K'
    try simp only [Act.put, List.setIfInBounds_toArray, List.set_cons_zero, List.set_cons_succ]
    refine wpAnyH_take (i := 16) (oi := ⟨_, _, _, _, _, _⟩) (v := ?_) rfl (by kernel_rfl) (by kernel_rfl) (by kernel_rfl) (fun _ _ _ h => h) (Or.inl ⟨by rfl, ?_⟩) (by assumption) ?_
    rotate_left 1
    · intro W' hSw
      obtain ⟨hS1, hS2⟩ := hSw
      go_simp
      try with_reducible rfl
    try simp only [Act.put, List.setIfInBounds_toArray, List.set_cons_zero, List.set_cons_succ]
    refine wpAnyH_done (by kernel_rfl) ?_ _

    have HX9 : Hid (W.Extends V9) := (extends_drew HXV.out).trans hx9
    clear hHeld hbd hx9
    cases hv with
    | false =>
      have HP := hid_of (HFIN.out V9 27 (AcR.rng HLM.out HFA.out HNB.out (all_not HRR.out (by unfold resB; rw [← EHV.out]; rfl))) HX9.out)
      clear HALL
      go_wp2_with fail
      try go_ret
      exact HP.out
    | true =>
      have hbV4 : blk V9 b = some Ce := (HX9.out.blk (blk_lt HB.out)).trans HB.out
      have hbu4 : blk V9 bu = some CU := (HX9.out.blk (blk_lt HU1.out)).trans HU1.out
      clear hbV hbu
      go_upto_region 34 with fail
      refine wp_loop_f 278 (zAd W (.pointer (some ⟨b, 0, none⟩)) 8 i 9 xn r.body (fun l => (!l.neg || covB r l.atom) = true)) (fun f _ => xn - (intOf (f 9)).toNat) rfl ⟨rfl, rfl, 0, by omega, rfl, ⟨HX9.out, fun m x hm => by omega⟩⟩ ?_
      clear hbV4 hbu4 HX9
      intro F7 W0 hrel
      obtain ⟨f0, fo, k, hk, fj, HI⟩ := hrel
      have H9 := hid_of fj
      rw [zframe278a, f0, fo, fj]
      clear f0 fo fj
      obtain ⟨hx, hall⟩ := HI.out
      have HXW := hid_of hx
      have HALK := hid_of hall
      have hbW : blk W0 b = some Ce := (hx.blk (blk_lt HB.out)).trans HB.out
      have hbu2 : blk W0 bu = some CU := (hx.blk (blk_lt HU1.out)).trans HU1.out
      clear HI hx hall

      by_cases hkn : k < xn
      rotate_left 1
      · have hkn' : ¬ (k : Int) < (xn : Int) := by omega
        have HJ : Hid (W.Extends W0 ∧ ∀ (m : Nat) (x : PR), m < i + 1 → p.rules[m]? = some x → resB x = true) := by
          refine ⟨HXW.out, up_one HALL.out HRR.out ?_⟩
          unfold resB
          rw [← EHV.out, Bool.true_and, List.all_eq_true]
          exact up_all HALK.out (by rw [HU8.out]; omega)
        clear HALL HALK
        go_wp2_with fail
        refine ⟨rfl, rfl, ⟨rfl, i + 1, by omega, ?_, HJ⟩, ?_⟩
        · show Value.int .i64 _ = _
          go_num
        · show un - (intOf (Value.int .i64 _)).toNat < un - (intOf (F6 8)).toNat
          rw [H8.out]
          simp [intOf]; omega

      have hkn' : (k : Int) < (xn : Int) := by omega
      obtain ⟨z, hz⟩ : ∃ z, r.body[k]? = some z := ⟨_, List.getElem?_eq_getElem (by rw [HU8.out]; exact hkn)⟩
      obtain ⟨bl, CL, l, exa, g1, g2, g3, g4, g5, g6⟩ := lit_at HU7.out hz
      dsimp only at exa
      subst exa
      have HZZ := hid_of hz
      have HG6 := hid_of g6
      have k0' : (0 : Int) ≤ (k : Int) := by omega
      have k2' : ((k : Int)).toNat = k := by omega
      have kd1 : k * 3 < CL.length := by omega
      have kd2 : k * 3 + 1 < CL.length := by omega
      have kd3 : k * 3 + 1 + 2 ≤ CL.length := by omega
      have hbl : blk W0 bl = some CL := (HXW.out.blk (blk_lt g1)).trans g1
      obtain ⟨LE, eLE⟩ : ∃ LE, LE = l.enc := ⟨_, rfl⟩
      rw [← eLE] at g5
      have ELE := hid_of eLE
      obtain ⟨zn, ezn⟩ : ∃ zn, zn = z.neg := ⟨_, rfl⟩
      rw [← ezn] at g3
      have EZN := hid_of ezn
      clear hz g1 g6 eLE ezn g2

      cases zn with
      | false =>
        have HJ : Hid (W.Extends W0.drew ∧ ∀ (m : Nat) (x : PL), m < k + 1 → r.body[m]? = some x → (!x.neg || covB r x.atom) = true) := ⟨extends_drew HXW.out, up_one HALK.out HZZ.out (by rw [← EZN.out]; rfl)⟩
        clear HALL HALK
        go_upto_region 36 with fail
        repeat go_step
        refine wp_region_held_drew (S := fun W' => blk W' b = some Ce ∧ blk W' bu = some CU ∧ blk W' bl = some CL) (by kernel_rfl) ⟨hbW, hbu2, hbl⟩ (fun hHeld => ?_)
        refine wpAnyH_take (i := 0) (oi := ⟨_, _, _, _, _, _⟩) (v := ?_) rfl (by kernel_rfl) (by kernel_rfl) (by kernel_rfl) (fun _ _ _ h => h) (Or.inl ⟨by rfl, ?_⟩) (by assumption) ?_
        rotate_left 1
        · intro W' hSw
          obtain ⟨hS1, hS2, hS3⟩ := hSw
          go_simp
          try with_reducible rfl
        try simp only [Act.put, List.setIfInBounds_toArray, List.set_cons_zero, List.set_cons_succ]
        refine wpAnyH_take (i := 1) (oi := ⟨_, _, _, _, _, _⟩) (v := ?_) rfl (by kernel_rfl) (by kernel_rfl) (by kernel_rfl) (fun _ _ _ h => h) (Or.inl ⟨by rfl, ?_⟩) (by assumption) ?_
        rotate_left 1
        · intro W' hSw
          obtain ⟨hS1, hS2, hS3⟩ := hSw
          go_simp
          try with_reducible rfl
        try simp only [Act.put, List.setIfInBounds_toArray, List.set_cons_zero, List.set_cons_succ]
        refine wpAnyH_take (i := 2) (oi := ⟨_, _, _, _, _, _⟩) (v := ?_) rfl (by kernel_rfl) (by kernel_rfl) (by kernel_rfl) (fun _ _ _ h => h) (Or.inl ⟨by rfl, ?_⟩) (by assumption) ?_
        rotate_left 1
        · intro W' hSw
          obtain ⟨hS1, hS2, hS3⟩ := hSw
          go_simp
          try with_reducible rfl
        try simp only [Act.put, List.setIfInBounds_toArray, List.set_cons_zero, List.set_cons_succ]
        refine wpAnyH_take (i := 3) (oi := ⟨_, _, _, _, _, _⟩) (v := ?_) rfl (by kernel_rfl) (by kernel_rfl) (by kernel_rfl) (fun _ _ _ h => h) (Or.inl ⟨by rfl, ?_⟩) (by assumption) ?_
        rotate_left 1
        · intro W' hSw
          obtain ⟨hS1, hS2, hS3⟩ := hSw
          go_simp
          try with_reducible rfl
        try simp only [Act.put, List.setIfInBounds_toArray, List.set_cons_zero, List.set_cons_succ]
        refine wpAnyH_take (i := 4) (oi := ⟨_, _, _, _, _, _⟩) (v := ?_) rfl (by kernel_rfl) (by kernel_rfl) (by kernel_rfl) (fun _ _ _ h => h) (Or.inl ⟨by rfl, ?_⟩) (by assumption) ?_
        rotate_left 1
        · intro W' hSw
          obtain ⟨hS1, hS2, hS3⟩ := hSw
          go_simp
          try with_reducible rfl
        try simp only [Act.put, List.setIfInBounds_toArray, List.set_cons_zero, List.set_cons_succ]
        refine wpAnyH_take (i := 5) (oi := ⟨_, _, _, _, _, _⟩) (v := ?_) rfl (by kernel_rfl) (by kernel_rfl) (by kernel_rfl) (fun _ _ _ h => h) (Or.inl ⟨by rfl, ?_⟩) (by assumption) ?_
        rotate_left 1
        · intro W' hSw
          obtain ⟨hS1, hS2, hS3⟩ := hSw
          go_simp
          try with_reducible rfl
        try simp only [Act.put, List.setIfInBounds_toArray, List.set_cons_zero, List.set_cons_succ]
        refine wpAnyH_take (i := 6) (oi := ⟨_, _, _, _, _, _⟩) (v := ?_) rfl (by kernel_rfl) (by kernel_rfl) (by kernel_rfl) (fun _ _ _ h => h) (Or.inl ⟨by rfl, ?_⟩) (by assumption) ?_
        rotate_left 1
        · intro W' hSw
          obtain ⟨hS1, hS2, hS3⟩ := hSw
          go_simp
          try with_reducible rfl
        try simp only [Act.put, List.setIfInBounds_toArray, List.set_cons_zero, List.set_cons_succ]
        refine wpAnyH_take (i := 7) (oi := ⟨_, _, _, _, _, _⟩) (v := ?_) rfl (by kernel_rfl) (by kernel_rfl) (by kernel_rfl) (fun _ _ _ h => h) (Or.inl ⟨by rfl, ?_⟩) (by assumption) ?_
        rotate_left 1
        · intro W' hSw
          obtain ⟨hS1, hS2, hS3⟩ := hSw
          go_simp
          try with_reducible rfl
        try simp only [Act.put, List.setIfInBounds_toArray, List.set_cons_zero, List.set_cons_succ]
        refine wpAnyH_take (i := 8) (oi := ⟨_, _, _, _, _, _⟩) (v := ?_) rfl (by kernel_rfl) (by kernel_rfl) (by kernel_rfl) (fun _ _ _ h => h) (Or.inl ⟨by rfl, ?_⟩) (by assumption) ?_
        rotate_left 1
        · intro W' hSw
          obtain ⟨hS1, hS2, hS3⟩ := hSw
          go_simp
          try with_reducible rfl
        try simp only [Act.put, List.setIfInBounds_toArray, List.set_cons_zero, List.set_cons_succ]
        refine wpAnyH_take (i := 9) (oi := ⟨_, _, _, _, _, _⟩) (v := ?_) rfl (by kernel_rfl) (by kernel_rfl) (by kernel_rfl) (fun _ _ _ h => h) (Or.inl ⟨by rfl, ?_⟩) (by assumption) ?_
        rotate_left 1
        · intro W' hSw
          obtain ⟨hS1, hS2, hS3⟩ := hSw
          go_simp
          try with_reducible rfl
        try simp only [Act.put, List.setIfInBounds_toArray, List.set_cons_zero, List.set_cons_succ]
        refine wpAnyH_take (i := 10) (oi := ⟨_, _, _, _, _, _⟩) (v := ?_) rfl (by kernel_rfl) (by kernel_rfl) (by kernel_rfl) (fun _ _ _ h => h) (Or.inl ⟨by rfl, ?_⟩) (by assumption) ?_
        rotate_left 1
        · intro W' hSw
          obtain ⟨hS1, hS2, hS3⟩ := hSw
          go_simp
          try with_reducible rfl
        try simp only [Act.put, List.setIfInBounds_toArray, List.set_cons_zero, List.set_cons_succ]
        refine wpAnyH_take (i := 11) (oi := ⟨_, _, _, _, _, _⟩) (v := ?_) rfl (by kernel_rfl) (by kernel_rfl) (by kernel_rfl) (fun _ _ _ h => h) (Or.inl ⟨by rfl, ?_⟩) (by assumption) ?_
        rotate_left 1
        · intro W' hSw
          obtain ⟨hS1, hS2, hS3⟩ := hSw
          go_simp
          try with_reducible rfl
        try simp only [Act.put, List.setIfInBounds_toArray, List.set_cons_zero, List.set_cons_succ]
        refine wpAnyH_take (i := 12) (oi := ⟨_, _, _, _, _, _⟩) (v := ?_) rfl (by kernel_rfl) (by kernel_rfl) (by kernel_rfl) (fun _ _ _ h => h) (Or.inl ⟨by rfl, ?_⟩) (by assumption) ?_
        rotate_left 1
        · intro W' hSw
          obtain ⟨hS1, hS2, hS3⟩ := hSw
          go_simp
          try with_reducible rfl
        try simp only [Act.put, List.setIfInBounds_toArray, List.set_cons_zero, List.set_cons_succ]
        refine wpAnyH_take (i := 13) (oi := ⟨_, _, _, _, _, _⟩) (v := undef) rfl (by kernel_rfl) (by kernel_rfl) (by kernel_rfl) (fun _ _ _ h => h) (Or.inr ⟨by rfl, rfl⟩) (by assumption) ?_
        try simp only [Act.put, List.setIfInBounds_toArray, List.set_cons_zero, List.set_cons_succ]
        refine wpAnyH_take (i := 14) (oi := ⟨_, _, _, _, _, _⟩) (v := undef) rfl (by kernel_rfl) (by kernel_rfl) (by kernel_rfl) (fun _ _ _ h => h) (Or.inr ⟨by rfl, rfl⟩) (by assumption) ?_
        try simp only [Act.put, List.setIfInBounds_toArray, List.set_cons_zero, List.set_cons_succ]
        refine wpAnyH_take (i := 15) (oi := ⟨_, _, _, _, _, _⟩) (v := undef) rfl (by kernel_rfl) (by kernel_rfl) (by kernel_rfl) (fun _ _ _ h => h) (Or.inr ⟨by rfl, rfl⟩) (by assumption) ?_
        try simp only [Act.put, List.setIfInBounds_toArray, List.set_cons_zero, List.set_cons_succ]
        refine wpAnyH_take (i := 16) (oi := ⟨_, _, _, _, _, _⟩) (v := undef) rfl (by kernel_rfl) (by kernel_rfl) (by kernel_rfl) (fun _ _ _ h => h) (Or.inr ⟨by rfl, rfl⟩) (by assumption) ?_
        try simp only [Act.put, List.setIfInBounds_toArray, List.set_cons_zero, List.set_cons_succ]
        refine wpAnyH_take (i := 17) (oi := ⟨_, _, _, _, _, _⟩) (v := undef) rfl (by kernel_rfl) (by kernel_rfl) (by kernel_rfl) (fun _ _ _ h => h) (Or.inr ⟨by rfl, rfl⟩) (by assumption) ?_
        try simp only [Act.put, List.setIfInBounds_toArray, List.set_cons_zero, List.set_cons_succ]
        refine wpAnyH_take (i := 18) (oi := ⟨_, _, _, _, _, _⟩) (v := undef) rfl (by kernel_rfl) (by kernel_rfl) (by kernel_rfl) (fun _ _ _ h => h) (Or.inr ⟨by rfl, rfl⟩) (by assumption) ?_
        try simp only [Act.put, List.setIfInBounds_toArray, List.set_cons_zero, List.set_cons_succ]
        refine wpAnyH_take (i := 19) (oi := ⟨_, _, _, _, _, _⟩) (v := undef) rfl (by kernel_rfl) (by kernel_rfl) (by kernel_rfl) (fun _ _ _ h => h) (Or.inr ⟨by rfl, rfl⟩) (by assumption) ?_
        try simp only [Act.put, List.setIfInBounds_toArray, List.set_cons_zero, List.set_cons_succ]
        refine wpAnyH_take (i := 20) (oi := ⟨_, _, _, _, _, _⟩) (v := undef) rfl (by kernel_rfl) (by kernel_rfl) (by kernel_rfl) (fun _ _ _ h => h) (Or.inr ⟨by rfl, rfl⟩) (by assumption) ?_
        try simp only [Act.put, List.setIfInBounds_toArray, List.set_cons_zero, List.set_cons_succ]
        refine wpAnyH_take (i := 21) (oi := ⟨_, _, _, _, _, _⟩) (v := undef) rfl (by kernel_rfl) (by kernel_rfl) (by kernel_rfl) (fun _ _ _ h => h) (Or.inr ⟨by rfl, rfl⟩) (by assumption) ?_
        try simp only [Act.put, List.setIfInBounds_toArray, List.set_cons_zero, List.set_cons_succ]
        refine wpAnyH_take (i := 22) (oi := ⟨_, _, _, _, _, _⟩) (v := undef) rfl (by kernel_rfl) (by kernel_rfl) (by kernel_rfl) (fun _ _ _ h => h) (Or.inr ⟨by rfl, rfl⟩) (by assumption) ?_
        try simp only [Act.put, List.setIfInBounds_toArray, List.set_cons_zero, List.set_cons_succ]
        refine wpAnyH_take (i := 23) (oi := ⟨_, _, _, _, _, _⟩) (v := undef) rfl (by kernel_rfl) (by kernel_rfl) (by kernel_rfl) (fun _ _ _ h => h) (Or.inr ⟨by rfl, rfl⟩) (by assumption) ?_
        try simp only [Act.put, List.setIfInBounds_toArray, List.set_cons_zero, List.set_cons_succ]
        refine wpAnyH_take (i := 24) (oi := ⟨_, _, _, _, _, _⟩) (v := undef) rfl (by kernel_rfl) (by kernel_rfl) (by kernel_rfl) (fun _ _ _ h => h) (Or.inr ⟨by rfl, rfl⟩) (by assumption) ?_
        try simp only [Act.put, List.setIfInBounds_toArray, List.set_cons_zero, List.set_cons_succ]
        refine wpAnyH_take (i := 25) (oi := ⟨_, _, _, _, _, _⟩) (v := undef) rfl (by kernel_rfl) (by kernel_rfl) (by kernel_rfl) (fun _ _ _ h => h) (Or.inr ⟨by rfl, rfl⟩) (by assumption) ?_
        try simp only [Act.put, List.setIfInBounds_toArray, List.set_cons_zero, List.set_cons_succ]
        refine wpAnyH_take (i := 26) (oi := ⟨_, _, _, _, _, _⟩) (v := undef) rfl (by kernel_rfl) (by kernel_rfl) (by kernel_rfl) (fun _ _ _ h => h) (Or.inr ⟨by rfl, rfl⟩) (by assumption) ?_
        try simp only [Act.put, List.setIfInBounds_toArray, List.set_cons_zero, List.set_cons_succ]
        refine wpAnyH_take (i := 27) (oi := ⟨_, _, _, _, _, _⟩) (v := undef) rfl (by kernel_rfl) (by kernel_rfl) (by kernel_rfl) (fun _ _ _ h => h) (Or.inr ⟨by rfl, rfl⟩) (by assumption) ?_
        try simp only [Act.put, List.setIfInBounds_toArray, List.set_cons_zero, List.set_cons_succ]
        refine wpAnyH_take (i := 28) (oi := ⟨_, _, _, _, _, _⟩) (v := undef) rfl (by kernel_rfl) (by kernel_rfl) (by kernel_rfl) (fun _ _ _ h => h) (Or.inr ⟨by rfl, rfl⟩) (by assumption) ?_
        try simp only [Act.put, List.setIfInBounds_toArray, List.set_cons_zero, List.set_cons_succ]
        refine wpAnyH_take (i := 29) (oi := ⟨_, _, _, _, _, _⟩) (v := undef) rfl (by kernel_rfl) (by kernel_rfl) (by kernel_rfl) (fun _ _ _ h => h) (Or.inr ⟨by rfl, rfl⟩) (by assumption) ?_
        try simp only [Act.put, List.setIfInBounds_toArray, List.set_cons_zero, List.set_cons_succ]
        refine wpAnyH_take (i := 30) (oi := ⟨_, _, _, _, _, _⟩) (v := undef) rfl (by kernel_rfl) (by kernel_rfl) (by kernel_rfl) (fun _ _ _ h => h) (Or.inr ⟨by rfl, rfl⟩) (by assumption) ?_
        try simp only [Act.put, List.setIfInBounds_toArray, List.set_cons_zero, List.set_cons_succ]
        refine wpAnyH_take (i := 31) (oi := ⟨_, _, _, _, _, _⟩) (v := undef) rfl (by kernel_rfl) (by kernel_rfl) (by kernel_rfl) (fun _ _ _ h => h) (Or.inr ⟨by rfl, rfl⟩) (by assumption) ?_
        try simp only [Act.put, List.setIfInBounds_toArray, List.set_cons_zero, List.set_cons_succ]
        refine wpAnyH_take (i := 32) (oi := ⟨_, _, _, _, _, _⟩) (v := undef) rfl (by kernel_rfl) (by kernel_rfl) (by kernel_rfl) (fun _ _ _ h => h) (Or.inr ⟨by rfl, rfl⟩) (by assumption) ?_
        try simp only [Act.put, List.setIfInBounds_toArray, List.set_cons_zero, List.set_cons_succ]
        refine wpAnyH_take (i := 33) (oi := ⟨_, _, _, _, _, _⟩) (v := undef) rfl (by kernel_rfl) (by kernel_rfl) (by kernel_rfl) (fun _ _ _ h => h) (Or.inr ⟨by rfl, rfl⟩) (by assumption) ?_
        try simp only [Act.put, List.setIfInBounds_toArray, List.set_cons_zero, List.set_cons_succ]
        refine wpAnyH_take (i := 34) (oi := ⟨_, _, _, _, _, _⟩) (v := ?_) rfl (by kernel_rfl) (by kernel_rfl) (by kernel_rfl) (fun _ _ _ h => h) (Or.inl ⟨by rfl, ?_⟩) (by assumption) ?_
        rotate_left 1
        · intro W' hSw
          obtain ⟨hS1, hS2, hS3⟩ := hSw
          go_simp
          try with_reducible rfl
        try simp only [Act.put, List.setIfInBounds_toArray, List.set_cons_zero, List.set_cons_succ]
        refine wpAnyH_done (by kernel_rfl) ?_ _

        clear hHeld
        go_wp2_with fail
        refine ⟨rfl, rfl, ⟨rfl, rfl, k + 1, by omega, ?_, HJ⟩, ?_⟩
        · show Value.int .i64 _ = _
          go_num
        · show xn - (intOf (Value.int .i64 _)).toNat < xn - (intOf (F7 9)).toNat
          rw [H9.out]
          simp [intOf]; omega

      | true =>
        have hbd := bound_any W0.drew ⟨xh, ⟨some ⟨bl, 0, none⟩, xn, xc⟩⟩ r (HU7.out.ext (extends_drew HXW.out)) HLR.out l z.atom (HG6.out.ext (extends_drew HXW.out)) (HLR.out.2.2 z (List.mem_of_getElem? HZZ.out))
        rw [← ELE.out, ← EXE.out, bndB_cov] at hbd
        obtain ⟨cv, ecv⟩ : ∃ cv, cv = covB r z.atom := ⟨_, rfl⟩
        rw [← ecv] at hbd
        have ECV := hid_of ecv
        clear ecv
        go_upto_region 36 with fail
        repeat go_step
        refine wp_region_held_drew (S := fun W' => blk W' b = some Ce ∧ blk W' bu = some CU ∧ blk W' bl = some CL) (by kernel_rfl) ⟨hbW, hbu2, hbl⟩ (fun hHeld => ?_)
        refine wpAnyH_take (i := 0) (oi := ⟨_, _, _, _, _, _⟩) (v := ?_) rfl (by kernel_rfl) (by kernel_rfl) (by kernel_rfl) (fun _ _ _ h => h) (Or.inl ⟨by rfl, ?_⟩) (by assumption) ?_
        rotate_left 1
        · intro W' hSw
          obtain ⟨hS1, hS2, hS3⟩ := hSw
          go_simp
          try with_reducible rfl
        try simp only [Act.put, List.setIfInBounds_toArray, List.set_cons_zero, List.set_cons_succ]
        refine wpAnyH_take (i := 1) (oi := ⟨_, _, _, _, _, _⟩) (v := ?_) rfl (by kernel_rfl) (by kernel_rfl) (by kernel_rfl) (fun _ _ _ h => h) (Or.inl ⟨by rfl, ?_⟩) (by assumption) ?_
        rotate_left 1
        · intro W' hSw
          obtain ⟨hS1, hS2, hS3⟩ := hSw
          go_simp
          try with_reducible rfl
        try simp only [Act.put, List.setIfInBounds_toArray, List.set_cons_zero, List.set_cons_succ]
        refine wpAnyH_take (i := 2) (oi := ⟨_, _, _, _, _, _⟩) (v := ?_) rfl (by kernel_rfl) (by kernel_rfl) (by kernel_rfl) (fun _ _ _ h => h) (Or.inl ⟨by rfl, ?_⟩) (by assumption) ?_
        rotate_left 1
        · intro W' hSw
          obtain ⟨hS1, hS2, hS3⟩ := hSw
          go_simp
          try with_reducible rfl
        try simp only [Act.put, List.setIfInBounds_toArray, List.set_cons_zero, List.set_cons_succ]
        refine wpAnyH_take (i := 3) (oi := ⟨_, _, _, _, _, _⟩) (v := ?_) rfl (by kernel_rfl) (by kernel_rfl) (by kernel_rfl) (fun _ _ _ h => h) (Or.inl ⟨by rfl, ?_⟩) (by assumption) ?_
        rotate_left 1
        · intro W' hSw
          obtain ⟨hS1, hS2, hS3⟩ := hSw
          go_simp
          try with_reducible rfl
        try simp only [Act.put, List.setIfInBounds_toArray, List.set_cons_zero, List.set_cons_succ]
        refine wpAnyH_take (i := 4) (oi := ⟨_, _, _, _, _, _⟩) (v := ?_) rfl (by kernel_rfl) (by kernel_rfl) (by kernel_rfl) (fun _ _ _ h => h) (Or.inl ⟨by rfl, ?_⟩) (by assumption) ?_
        rotate_left 1
        · intro W' hSw
          obtain ⟨hS1, hS2, hS3⟩ := hSw
          go_simp
          try with_reducible rfl
        try simp only [Act.put, List.setIfInBounds_toArray, List.set_cons_zero, List.set_cons_succ]
        refine wpAnyH_take (i := 5) (oi := ⟨_, _, _, _, _, _⟩) (v := ?_) rfl (by kernel_rfl) (by kernel_rfl) (by kernel_rfl) (fun _ _ _ h => h) (Or.inl ⟨by rfl, ?_⟩) (by assumption) ?_
        rotate_left 1
        · intro W' hSw
          obtain ⟨hS1, hS2, hS3⟩ := hSw
          go_simp
          try with_reducible rfl
        try simp only [Act.put, List.setIfInBounds_toArray, List.set_cons_zero, List.set_cons_succ]
        refine wpAnyH_take (i := 6) (oi := ⟨_, _, _, _, _, _⟩) (v := ?_) rfl (by kernel_rfl) (by kernel_rfl) (by kernel_rfl) (fun _ _ _ h => h) (Or.inl ⟨by rfl, ?_⟩) (by assumption) ?_
        rotate_left 1
        · intro W' hSw
          obtain ⟨hS1, hS2, hS3⟩ := hSw
          go_simp
          try with_reducible rfl
        try simp only [Act.put, List.setIfInBounds_toArray, List.set_cons_zero, List.set_cons_succ]
        refine wpAnyH_take (i := 7) (oi := ⟨_, _, _, _, _, _⟩) (v := ?_) rfl (by kernel_rfl) (by kernel_rfl) (by kernel_rfl) (fun _ _ _ h => h) (Or.inl ⟨by rfl, ?_⟩) (by assumption) ?_
        rotate_left 1
        · intro W' hSw
          obtain ⟨hS1, hS2, hS3⟩ := hSw
          go_simp
          try with_reducible rfl
        try simp only [Act.put, List.setIfInBounds_toArray, List.set_cons_zero, List.set_cons_succ]
        refine wpAnyH_take (i := 8) (oi := ⟨_, _, _, _, _, _⟩) (v := ?_) rfl (by kernel_rfl) (by kernel_rfl) (by kernel_rfl) (fun _ _ _ h => h) (Or.inl ⟨by rfl, ?_⟩) (by assumption) ?_
        rotate_left 1
        · intro W' hSw
          obtain ⟨hS1, hS2, hS3⟩ := hSw
          go_simp
          try with_reducible rfl
        try simp only [Act.put, List.setIfInBounds_toArray, List.set_cons_zero, List.set_cons_succ]
        refine wpAnyH_take (i := 9) (oi := ⟨_, _, _, _, _, _⟩) (v := ?_) rfl (by kernel_rfl) (by kernel_rfl) (by kernel_rfl) (fun _ _ _ h => h) (Or.inl ⟨by rfl, ?_⟩) (by assumption) ?_
        rotate_left 1
        · intro W' hSw
          obtain ⟨hS1, hS2, hS3⟩ := hSw
          go_simp
          try with_reducible rfl
        try simp only [Act.put, List.setIfInBounds_toArray, List.set_cons_zero, List.set_cons_succ]
        refine wpAnyH_take (i := 10) (oi := ⟨_, _, _, _, _, _⟩) (v := ?_) rfl (by kernel_rfl) (by kernel_rfl) (by kernel_rfl) (fun _ _ _ h => h) (Or.inl ⟨by rfl, ?_⟩) (by assumption) ?_
        rotate_left 1
        · intro W' hSw
          obtain ⟨hS1, hS2, hS3⟩ := hSw
          go_simp
          try with_reducible rfl
        try simp only [Act.put, List.setIfInBounds_toArray, List.set_cons_zero, List.set_cons_succ]
        refine wpAnyH_take (i := 11) (oi := ⟨_, _, _, _, _, _⟩) (v := ?_) rfl (by kernel_rfl) (by kernel_rfl) (by kernel_rfl) (fun _ _ _ h => h) (Or.inl ⟨by rfl, ?_⟩) (by assumption) ?_
        rotate_left 1
        · intro W' hSw
          obtain ⟨hS1, hS2, hS3⟩ := hSw
          go_simp
          try with_reducible rfl
        try simp only [Act.put, List.setIfInBounds_toArray, List.set_cons_zero, List.set_cons_succ]
        refine wpAnyH_take (i := 12) (oi := ⟨_, _, _, _, _, _⟩) (v := ?_) rfl (by kernel_rfl) (by kernel_rfl) (by kernel_rfl) (fun _ _ _ h => h) (Or.inl ⟨by rfl, ?_⟩) (by assumption) ?_
        rotate_left 1
        · intro W' hSw
          obtain ⟨hS1, hS2, hS3⟩ := hSw
          go_simp
          try with_reducible rfl
        try simp only [Act.put, List.setIfInBounds_toArray, List.set_cons_zero, List.set_cons_succ]
        refine wpAnyH_take (i := 13) (oi := ⟨_, _, _, _, _, _⟩) (v := ?_) rfl (by kernel_rfl) (by kernel_rfl) (by kernel_rfl) (fun _ _ _ h => h) (Or.inl ⟨by rfl, ?_⟩) (by assumption) ?_
        rotate_left 1
        · intro W' hSw
          obtain ⟨hS1, hS2, hS3⟩ := hSw
          go_simp
          try with_reducible rfl
        try simp only [Act.put, List.setIfInBounds_toArray, List.set_cons_zero, List.set_cons_succ]
        refine wpAnyH_take (i := 14) (oi := ⟨_, _, _, _, _, _⟩) (v := ?_) rfl (by kernel_rfl) (by kernel_rfl) (by kernel_rfl) (fun _ _ _ h => h) (Or.inl ⟨by rfl, ?_⟩) (by assumption) ?_
        rotate_left 1
        · intro W' hSw
          obtain ⟨hS1, hS2, hS3⟩ := hSw
          go_simp
          try with_reducible rfl
        try simp only [Act.put, List.setIfInBounds_toArray, List.set_cons_zero, List.set_cons_succ]
        refine wpAnyH_take (i := 15) (oi := ⟨_, _, _, _, _, _⟩) (v := ?_) rfl (by kernel_rfl) (by kernel_rfl) (by kernel_rfl) (fun _ _ _ h => h) (Or.inl ⟨by rfl, ?_⟩) (by assumption) ?_
        rotate_left 1
        · intro W' hSw
          obtain ⟨hS1, hS2, hS3⟩ := hSw
          go_simp
          try with_reducible rfl
        try simp only [Act.put, List.setIfInBounds_toArray, List.set_cons_zero, List.set_cons_succ]
        refine wpAnyH_take (i := 16) (oi := ⟨_, _, _, _, _, _⟩) (v := ?_) rfl (by kernel_rfl) (by kernel_rfl) (by kernel_rfl) (fun _ _ _ h => h) (Or.inl ⟨by rfl, ?_⟩) (by assumption) ?_
        rotate_left 1
        · intro W' hSw
          obtain ⟨hS1, hS2, hS3⟩ := hSw
          go_simp
          try with_reducible rfl
        try simp only [Act.put, List.setIfInBounds_toArray, List.set_cons_zero, List.set_cons_succ]
        refine wpAnyH_take (i := 17) (oi := ⟨_, _, _, _, _, _⟩) (v := ?_) rfl (by kernel_rfl) (by kernel_rfl) (by kernel_rfl) (fun _ _ _ h => h) (Or.inl ⟨by rfl, ?_⟩) (by assumption) ?_
        rotate_left 1
        · intro W' hSw
          obtain ⟨hS1, hS2, hS3⟩ := hSw
          go_simp
          try with_reducible rfl
        try simp only [Act.put, List.setIfInBounds_toArray, List.set_cons_zero, List.set_cons_succ]
        refine wpAnyH_take (i := 18) (oi := ⟨_, _, _, _, _, _⟩) (v := ?_) rfl (by kernel_rfl) (by kernel_rfl) (by kernel_rfl) (fun _ _ _ h => h) (Or.inl ⟨by rfl, ?_⟩) (by assumption) ?_
        rotate_left 1
        · intro W' hSw
          obtain ⟨hS1, hS2, hS3⟩ := hSw
          go_simp
          try with_reducible rfl
        try simp only [Act.put, List.setIfInBounds_toArray, List.set_cons_zero, List.set_cons_succ]
        refine wpAnyH_take (i := 19) (oi := ⟨_, _, _, _, _, _⟩) (v := ?_) rfl (by kernel_rfl) (by kernel_rfl) (by kernel_rfl) (fun _ _ _ h => h) (Or.inl ⟨by rfl, ?_⟩) (by assumption) ?_
        rotate_left 1
        · intro W' hSw
          obtain ⟨hS1, hS2, hS3⟩ := hSw
          go_simp
          try with_reducible rfl
        try simp only [Act.put, List.setIfInBounds_toArray, List.set_cons_zero, List.set_cons_succ]
        refine wpAnyH_take (i := 20) (oi := ⟨_, _, _, _, _, _⟩) (v := ?_) rfl (by kernel_rfl) (by kernel_rfl) (by kernel_rfl) (fun _ _ _ h => h) (Or.inl ⟨by rfl, ?_⟩) (by assumption) ?_
        rotate_left 1
        · intro W' hSw
          obtain ⟨hS1, hS2, hS3⟩ := hSw
          go_simp
          try with_reducible rfl
        try simp only [Act.put, List.setIfInBounds_toArray, List.set_cons_zero, List.set_cons_succ]
        refine wpAnyH_take (i := 21) (oi := ⟨_, _, _, _, _, _⟩) (v := ?_) rfl (by kernel_rfl) (by kernel_rfl) (by kernel_rfl) (fun _ _ _ h => h) (Or.inl ⟨by rfl, ?_⟩) (by assumption) ?_
        rotate_left 1
        · intro W' hSw
          obtain ⟨hS1, hS2, hS3⟩ := hSw
          go_simp
          try with_reducible rfl
        try simp only [Act.put, List.setIfInBounds_toArray, List.set_cons_zero, List.set_cons_succ]
        refine wpAnyH_take (i := 22) (oi := ⟨_, _, _, _, _, _⟩) (v := ?_) rfl (by kernel_rfl) (by kernel_rfl) (by kernel_rfl) (fun _ _ _ h => h) (Or.inl ⟨by rfl, ?_⟩) (by assumption) ?_
        rotate_left 1
        · intro W' hSw
          obtain ⟨hS1, hS2, hS3⟩ := hSw
          go_simp
          try with_reducible rfl
        try simp only [Act.put, List.setIfInBounds_toArray, List.set_cons_zero, List.set_cons_succ]
        refine wpAnyH_take (i := 23) (oi := ⟨_, _, _, _, _, _⟩) (v := ?_) rfl (by kernel_rfl) (by kernel_rfl) (by kernel_rfl) (fun _ _ _ h => h) (Or.inl ⟨by rfl, ?_⟩) (by assumption) ?_
        rotate_left 1
        · intro W' hSw
          obtain ⟨hS1, hS2, hS3⟩ := hSw
          go_simp
          try with_reducible rfl
        try simp only [Act.put, List.setIfInBounds_toArray, List.set_cons_zero, List.set_cons_succ]
        refine wpAnyH_take (i := 24) (oi := ⟨_, _, _, _, _, _⟩) (v := ?_) rfl (by kernel_rfl) (by kernel_rfl) (by kernel_rfl) (fun _ _ _ h => h) (Or.inl ⟨by rfl, ?_⟩) (by assumption) ?_
        rotate_left 1
        · intro W' hSw
          obtain ⟨hS1, hS2, hS3⟩ := hSw
          go_simp
          try with_reducible rfl
        try simp only [Act.put, List.setIfInBounds_toArray, List.set_cons_zero, List.set_cons_succ]
        refine wpAnyH_take (i := 25) (oi := ⟨_, _, _, _, _, _⟩) (v := ?_) rfl (by kernel_rfl) (by kernel_rfl) (by kernel_rfl) (fun _ _ _ h => h) (Or.inl ⟨by rfl, ?_⟩) (by assumption) ?_
        rotate_left 1
        · intro W' hSw
          obtain ⟨hS1, hS2, hS3⟩ := hSw
          go_simp
          try with_reducible rfl
        try simp only [Act.put, List.setIfInBounds_toArray, List.set_cons_zero, List.set_cons_succ]
        refine wpAnyH_take (i := 26) (oi := ⟨_, _, _, _, _, _⟩) (v := ?_) rfl (by kernel_rfl) (by kernel_rfl) (by kernel_rfl) (fun _ _ _ h => h) (Or.inl ⟨by rfl, ?_⟩) (by assumption) ?_
        rotate_left 1
        · intro W' hSw
          obtain ⟨hS1, hS2, hS3⟩ := hSw
          go_simp
          try with_reducible rfl
        try simp only [Act.put, List.setIfInBounds_toArray, List.set_cons_zero, List.set_cons_succ]
        refine wpAnyH_take (i := 27) (oi := ⟨_, _, _, _, _, _⟩) (v := ?_) rfl (by kernel_rfl) (by kernel_rfl) (by kernel_rfl) (fun _ _ _ h => h) (Or.inl ⟨by rfl, ?_⟩) (by assumption) ?_
        rotate_left 1
        · intro W' hSw
          obtain ⟨hS1, hS2, hS3⟩ := hSw
          go_simp
          try with_reducible rfl
        try simp only [Act.put, List.setIfInBounds_toArray, List.set_cons_zero, List.set_cons_succ]
        refine wpAnyH_take (i := 28) (oi := ⟨_, _, _, _, _, _⟩) (v := ?_) rfl (by kernel_rfl) (by kernel_rfl) (by kernel_rfl) (fun _ _ _ h => h) (Or.inl ⟨by rfl, ?_⟩) (by assumption) ?_
        rotate_left 1
        · intro W' hSw
          obtain ⟨hS1, hS2, hS3⟩ := hSw
          go_simp
          try with_reducible rfl
        try simp only [Act.put, List.setIfInBounds_toArray, List.set_cons_zero, List.set_cons_succ]
        refine wpAnyH_take (i := 29) (oi := ⟨_, _, _, _, _, _⟩) (v := ?_) rfl (by kernel_rfl) (by kernel_rfl) (by kernel_rfl) (fun _ _ _ h => h) (Or.inl ⟨by rfl, ?_⟩) (by assumption) ?_
        rotate_left 1
        · intro W' hSw
          obtain ⟨hS1, hS2, hS3⟩ := hSw
          go_simp
          try with_reducible rfl
        try simp only [Act.put, List.setIfInBounds_toArray, List.set_cons_zero, List.set_cons_succ]
        refine wpAnyH_take (i := 30) (oi := ⟨_, _, _, _, _, _⟩) (v := ?_) rfl (by kernel_rfl) (by kernel_rfl) (by kernel_rfl) (fun _ _ _ h => h) (Or.inl ⟨by rfl, ?_⟩) (by assumption) ?_
        rotate_left 1
        · intro W' hSw
          obtain ⟨hS1, hS2, hS3⟩ := hSw
          go_simp
          try with_reducible rfl
        try simp only [Act.put, List.setIfInBounds_toArray, List.set_cons_zero, List.set_cons_succ]
        refine wpAnyH_take (i := 31) (oi := ⟨_, _, _, _, _, _⟩) (v := ?_) rfl (by kernel_rfl) (by kernel_rfl) (by kernel_rfl) (fun _ _ _ h => h) (Or.inl ⟨by rfl, ?_⟩) (by assumption) ?_
        rotate_left 1
        · intro W' hSw
          obtain ⟨hS1, hS2, hS3⟩ := hSw
          go_simp
          try with_reducible rfl
        try simp only [Act.put, List.setIfInBounds_toArray, List.set_cons_zero, List.set_cons_succ]
        refine wpAnyH_ready (rs := [32]) (by kernel_rfl) (by simp) ?_
        refine AllReadyH.cons (o := ⟨_, _, _, _, _, _⟩) rfl (fun K' hK => ?_) AllReadyH.nil
        go_simp
        refine hbd.mono ?_
        rintro e W2 ⟨rfl, hx2⟩
        dsimp only
        refine hK.out _ _ ⟨(hx2.blk (blk_lt (w := W0.drew) hbW)).trans hbW, (hx2.blk (blk_lt (w := W0.drew) hbu2)).trans hbu2, (hx2.blk (blk_lt (w := W0.drew) hbl)).trans hbl⟩ (fun hHeld => ?_)
        clear hK K'
        try simp only [Act.put, List.setIfInBounds_toArray, List.set_cons_zero, List.set_cons_succ]
        refine wpAnyH_take (i := 33) (oi := ⟨_, _, _, _, _, _⟩) (v := ?_) rfl (by kernel_rfl) (by kernel_rfl) (by kernel_rfl) (fun _ _ _ h => h) (Or.inl ⟨by rfl, ?_⟩) (by assumption) ?_
        rotate_left 1
        · intro W' hSw
          obtain ⟨hS1, hS2, hS3⟩ := hSw
          go_simp
          try with_reducible rfl
        try simp only [Act.put, List.setIfInBounds_toArray, List.set_cons_zero, List.set_cons_succ]
        refine wpAnyH_take (i := 34) (oi := ⟨_, _, _, _, _, _⟩) (v := ?_) rfl (by kernel_rfl) (by kernel_rfl) (by kernel_rfl) (fun _ _ _ h => h) (Or.inl ⟨by rfl, ?_⟩) (by assumption) ?_
        rotate_left 1
        · intro W' hSw
          obtain ⟨hS1, hS2, hS3⟩ := hSw
          go_simp
          try with_reducible rfl
        try simp only [Act.put, List.setIfInBounds_toArray, List.set_cons_zero, List.set_cons_succ]
        refine wpAnyH_done (by kernel_rfl) ?_ _

        have HX2 : Hid (W.Extends W2) := (extends_drew HXW.out).trans hx2
        clear hHeld hbd hx2
        cases cv with
        | false =>
          have HP := hid_of (HFIN.out W2 27 (AcR.rng HLM.out HFA.out HNB.out (all_not HRR.out (by unfold resB; rw [all_not (f := fun l => !l.neg || covB r l.atom) HZZ.out (by rw [← EZN.out, ← ECV.out]; rfl), Bool.and_false]))) HX2.out)
          clear HALL HALK
          go_wp2_with fail
          try go_ret
          exact HP.out
        | true =>
          have HJ : Hid (W.Extends W2 ∧ ∀ (m : Nat) (x : PL), m < k + 1 → r.body[m]? = some x → (!x.neg || covB r x.atom) = true) := ⟨HX2.out, up_one HALK.out HZZ.out (by rw [← ECV.out, Bool.or_true])⟩
          clear HALL HALK
          go_wp2_with fail
          refine ⟨rfl, rfl, ⟨rfl, rfl, k + 1, by omega, ?_, HJ⟩, ?_⟩
          · show Value.int .i64 _ = _
            go_num
          · show xn - (intOf (Value.int .i64 _)).toNat < xn - (intOf (F7 9)).toNat
            rw [H9.out]
            simp [intOf]; omega

  have hin' : ¬ (i : Int) < (un : Int) := by omega
  have HRE : Hid (p.rules.all resB = true) := by
    show _ = _
    rw [List.all_eq_true]
    exact up_all HALL.out (by rw [← HUN.out]; omega)
  clear HALL
  go_upto_region 39 with fail
  refine wp_loop_f 278 (zAc W (.pointer (some ⟨b, 0, none⟩)) 10 un p.rules (fun r => ∀ l ∈ r.body, cyR p r l false)) (fun f _ => un - (intOf (f 10)).toNat) rfl ⟨rfl, 0, by omega, rfl, ⟨HXV.out, fun m x hm => by omega⟩⟩ ?_
  clear hbV hin' hin H8 HXV hi
  intro F8 Y0 hrel
  obtain ⟨f0, i, hi, fj, HI⟩ := hrel
  have H10 := hid_of fj
  rw [zframe278a, f0, fj]
  clear f0 fj
  obtain ⟨hx, hall⟩ := HI.out
  have HXV := hid_of hx
  have HALL := hid_of hall
  have hbV : blk Y0 b = some Ce := (hx.blk (blk_lt HB.out)).trans HB.out
  clear HI hx hall

  by_cases hin : i < un
  rotate_left 1
  · have hin' : ¬ (i : Int) < (un : Int) := by omega
    have HP := hid_of (HFIN.out Y0 0 (AcR.ok HLM.out HFA.out HNB.out HRE.out (up_all HALL.out (by rw [← HUN.out]; omega))) HXV.out)
    clear HALL
    go_wp2_with fail
    try go_ret
    exact HP.out
  have hin' : (i : Int) < (un : Int) := by omega
  obtain ⟨r, hr⟩ : ∃ r, p.rules[i]? = some r := ⟨_, List.getElem?_eq_getElem (by rw [← HUN.out]; exact hin)⟩
  obtain ⟨bu, CU, x, eua, u1, u2, u3, u4, u5, u6, u7, u8⟩ := rule_at HRS.out HRL.out HRC.out hr
  subst eua
  have HRR := hid_of hr
  have HU1 := hid_of u1
  have HU7 := hid_of u7
  have HU8 := hid_of u8
  have r0 : (0 : Int) ≤ (i : Int) := by omega
  have r2 : ((i : Int)).toNat = i := by omega
  have r3 : i * 3 < CU.length := by omega
  have r4 : i * 3 + 2 < CU.length := by omega
  have r5 : i * 3 + 2 ≤ CU.length := by omega
  have r6 : i * 3 + 3 ≤ CU.length := u2
  obtain ⟨xh, xa, xn, xc⟩ := x
  dsimp only at u4 u6 u8
  have hbu : blk Y0 bu = some CU := (HXV.out.blk (blk_lt u1)).trans u1

  have hxb : xn ≤ 1000 := by have := (HLN.out r (List.mem_of_getElem? hr)).2.1; omega
  have hpl : r.head.pred < p.preds.length := by
    have h9 := HFT.out r (List.mem_of_getElem? hr)
    unfold rlB atB at h9
    simp only [Bool.and_eq_true, decide_eq_true_eq] at h9
    exact h9.1.1
  have HPL := hid_of hpl
  obtain ⟨pr, epr⟩ : ∃ pr, pr = r.head.pred := ⟨_, rfl⟩
  rw [← epr] at u5
  have EPR := hid_of epr
  clear hr u1 u2 u3 u4 u7 u8 epr hpl
  go_upto_region 42 with fail
  refine wp_loop_f 278 (zAd W (.pointer (some ⟨b, 0, none⟩)) 10 i 11 xn r.body (fun l => cyR p r l false)) (fun f _ => xn - (intOf (f 11)).toNat) rfl ⟨rfl, rfl, 0, by omega, rfl, ⟨HXV.out, fun m x hm => by omega⟩⟩ ?_
  clear hbV hbu HXV
  intro F9 Y1 hrel
  obtain ⟨f0, fo, k, hk, fj, HI⟩ := hrel
  have H11 := hid_of fj
  rw [zframe278a, f0, fo, fj]
  clear f0 fo fj
  obtain ⟨hx, hall⟩ := HI.out
  have HXW := hid_of hx
  have HALK := hid_of hall
  have hbW : blk Y1 b = some Ce := (hx.blk (blk_lt HB.out)).trans HB.out
  have hbu2 : blk Y1 bu = some CU := (hx.blk (blk_lt HU1.out)).trans HU1.out
  clear HI hx hall

  by_cases hkn : k < xn
  rotate_left 1
  · have hkn' : ¬ (k : Int) < (xn : Int) := by omega
    have HJ : Hid (W.Extends Y1 ∧ ∀ (m : Nat) (x : PR), m < i + 1 → p.rules[m]? = some x → ∀ l ∈ x.body, cyR p x l false) := ⟨HXW.out, up_one HALL.out HRR.out (up_all HALK.out (by rw [HU8.out]; omega))⟩
    clear HALL HALK
    go_wp2_with fail
    refine ⟨rfl, rfl, ⟨rfl, i + 1, by omega, ?_, HJ⟩, ?_⟩
    · show Value.int .i64 _ = _
      go_num
    · show un - (intOf (Value.int .i64 _)).toNat < un - (intOf (F8 10)).toNat
      rw [H10.out]
      simp [intOf]; omega

  have hkn' : (k : Int) < (xn : Int) := by omega
  obtain ⟨z, hz⟩ : ∃ z, r.body[k]? = some z := ⟨_, List.getElem?_eq_getElem (by rw [HU8.out]; exact hkn)⟩
  obtain ⟨bl, CL, l, exa, g1, g2, g3, g4, g5, g6⟩ := lit_at HU7.out hz
  dsimp only at exa
  subst exa
  have HZZ := hid_of hz
  have HG6 := hid_of g6
  have k0' : (0 : Int) ≤ (k : Int) := by omega
  have k2' : ((k : Int)).toNat = k := by omega
  have kd1 : k * 3 < CL.length := by omega
  have kd2 : k * 3 + 1 < CL.length := by omega
  have kd3 : k * 3 + 1 + 2 ≤ CL.length := by omega
  have hbl : blk Y1 bl = some CL := (HXW.out.blk (blk_lt g1)).trans g1
  obtain ⟨LE, eLE⟩ : ∃ LE, LE = l.enc := ⟨_, rfl⟩
  rw [← eLE] at g5
  have ELE := hid_of eLE
  obtain ⟨zn, ezn⟩ : ∃ zn, zn = z.neg := ⟨_, rfl⟩
  rw [← ezn] at g3
  have EZN := hid_of ezn
  clear hz g1 g6 eLE ezn g2

  cases zn with
  | false =>
    have HJ : Hid (W.Extends Y1.drew ∧ ∀ (m : Nat) (x : PL), m < k + 1 → r.body[m]? = some x → cyR p r x false) := ⟨extends_drew HXW.out, up_one HALK.out HZZ.out (by unfold cyR; rw [← EZN.out, if_neg (by decide)])⟩
    clear HALL HALK
    go_upto_region 44 with fail
    repeat go_step
    refine wp_region_held_drew (S := fun W' => blk W' b = some Ce ∧ blk W' bu = some CU ∧ blk W' bl = some CL) (by kernel_rfl) ⟨hbW, hbu2, hbl⟩ (fun hHeld => ?_)
    refine wpAnyH_take (i := 0) (oi := ⟨_, _, _, _, _, _⟩) (v := ?_) rfl (by kernel_rfl) (by kernel_rfl) (by kernel_rfl) (fun _ _ _ h => h) (Or.inl ⟨by rfl, ?_⟩) (by assumption) ?_
    rotate_left 1
    · intro W' hSw
      obtain ⟨hS1, hS2, hS3⟩ := hSw
      go_simp
      try with_reducible rfl
    try simp only [Act.put, List.setIfInBounds_toArray, List.set_cons_zero, List.set_cons_succ]
    refine wpAnyH_take (i := 1) (oi := ⟨_, _, _, _, _, _⟩) (v := ?_) rfl (by kernel_rfl) (by kernel_rfl) (by kernel_rfl) (fun _ _ _ h => h) (Or.inl ⟨by rfl, ?_⟩) (by assumption) ?_
    rotate_left 1
    · intro W' hSw
      obtain ⟨hS1, hS2, hS3⟩ := hSw
      go_simp
      try with_reducible rfl
    try simp only [Act.put, List.setIfInBounds_toArray, List.set_cons_zero, List.set_cons_succ]
    refine wpAnyH_take (i := 2) (oi := ⟨_, _, _, _, _, _⟩) (v := ?_) rfl (by kernel_rfl) (by kernel_rfl) (by kernel_rfl) (fun _ _ _ h => h) (Or.inl ⟨by rfl, ?_⟩) (by assumption) ?_
    rotate_left 1
    · intro W' hSw
      obtain ⟨hS1, hS2, hS3⟩ := hSw
      go_simp
      try with_reducible rfl
    try simp only [Act.put, List.setIfInBounds_toArray, List.set_cons_zero, List.set_cons_succ]
    refine wpAnyH_take (i := 3) (oi := ⟨_, _, _, _, _, _⟩) (v := ?_) rfl (by kernel_rfl) (by kernel_rfl) (by kernel_rfl) (fun _ _ _ h => h) (Or.inl ⟨by rfl, ?_⟩) (by assumption) ?_
    rotate_left 1
    · intro W' hSw
      obtain ⟨hS1, hS2, hS3⟩ := hSw
      go_simp
      try with_reducible rfl
    try simp only [Act.put, List.setIfInBounds_toArray, List.set_cons_zero, List.set_cons_succ]
    refine wpAnyH_take (i := 4) (oi := ⟨_, _, _, _, _, _⟩) (v := ?_) rfl (by kernel_rfl) (by kernel_rfl) (by kernel_rfl) (fun _ _ _ h => h) (Or.inl ⟨by rfl, ?_⟩) (by assumption) ?_
    rotate_left 1
    · intro W' hSw
      obtain ⟨hS1, hS2, hS3⟩ := hSw
      go_simp
      try with_reducible rfl
    try simp only [Act.put, List.setIfInBounds_toArray, List.set_cons_zero, List.set_cons_succ]
    refine wpAnyH_take (i := 5) (oi := ⟨_, _, _, _, _, _⟩) (v := ?_) rfl (by kernel_rfl) (by kernel_rfl) (by kernel_rfl) (fun _ _ _ h => h) (Or.inl ⟨by rfl, ?_⟩) (by assumption) ?_
    rotate_left 1
    · intro W' hSw
      obtain ⟨hS1, hS2, hS3⟩ := hSw
      go_simp
      try with_reducible rfl
    try simp only [Act.put, List.setIfInBounds_toArray, List.set_cons_zero, List.set_cons_succ]
    refine wpAnyH_take (i := 6) (oi := ⟨_, _, _, _, _, _⟩) (v := ?_) rfl (by kernel_rfl) (by kernel_rfl) (by kernel_rfl) (fun _ _ _ h => h) (Or.inl ⟨by rfl, ?_⟩) (by assumption) ?_
    rotate_left 1
    · intro W' hSw
      obtain ⟨hS1, hS2, hS3⟩ := hSw
      go_simp
      try with_reducible rfl
    try simp only [Act.put, List.setIfInBounds_toArray, List.set_cons_zero, List.set_cons_succ]
    refine wpAnyH_take (i := 7) (oi := ⟨_, _, _, _, _, _⟩) (v := ?_) rfl (by kernel_rfl) (by kernel_rfl) (by kernel_rfl) (fun _ _ _ h => h) (Or.inl ⟨by rfl, ?_⟩) (by assumption) ?_
    rotate_left 1
    · intro W' hSw
      obtain ⟨hS1, hS2, hS3⟩ := hSw
      go_simp
      try with_reducible rfl
    try simp only [Act.put, List.setIfInBounds_toArray, List.set_cons_zero, List.set_cons_succ]
    refine wpAnyH_take (i := 8) (oi := ⟨_, _, _, _, _, _⟩) (v := ?_) rfl (by kernel_rfl) (by kernel_rfl) (by kernel_rfl) (fun _ _ _ h => h) (Or.inl ⟨by rfl, ?_⟩) (by assumption) ?_
    rotate_left 1
    · intro W' hSw
      obtain ⟨hS1, hS2, hS3⟩ := hSw
      go_simp
      try with_reducible rfl
    try simp only [Act.put, List.setIfInBounds_toArray, List.set_cons_zero, List.set_cons_succ]
    refine wpAnyH_take (i := 9) (oi := ⟨_, _, _, _, _, _⟩) (v := ?_) rfl (by kernel_rfl) (by kernel_rfl) (by kernel_rfl) (fun _ _ _ h => h) (Or.inl ⟨by rfl, ?_⟩) (by assumption) ?_
    rotate_left 1
    · intro W' hSw
      obtain ⟨hS1, hS2, hS3⟩ := hSw
      go_simp
      try with_reducible rfl
    try simp only [Act.put, List.setIfInBounds_toArray, List.set_cons_zero, List.set_cons_succ]
    refine wpAnyH_take (i := 10) (oi := ⟨_, _, _, _, _, _⟩) (v := ?_) rfl (by kernel_rfl) (by kernel_rfl) (by kernel_rfl) (fun _ _ _ h => h) (Or.inl ⟨by rfl, ?_⟩) (by assumption) ?_
    rotate_left 1
    · intro W' hSw
      obtain ⟨hS1, hS2, hS3⟩ := hSw
      go_simp
      try with_reducible rfl
    try simp only [Act.put, List.setIfInBounds_toArray, List.set_cons_zero, List.set_cons_succ]
    refine wpAnyH_take (i := 11) (oi := ⟨_, _, _, _, _, _⟩) (v := ?_) rfl (by kernel_rfl) (by kernel_rfl) (by kernel_rfl) (fun _ _ _ h => h) (Or.inl ⟨by rfl, ?_⟩) (by assumption) ?_
    rotate_left 1
    · intro W' hSw
      obtain ⟨hS1, hS2, hS3⟩ := hSw
      go_simp
      try with_reducible rfl
    try simp only [Act.put, List.setIfInBounds_toArray, List.set_cons_zero, List.set_cons_succ]
    refine wpAnyH_take (i := 12) (oi := ⟨_, _, _, _, _, _⟩) (v := ?_) rfl (by kernel_rfl) (by kernel_rfl) (by kernel_rfl) (fun _ _ _ h => h) (Or.inl ⟨by rfl, ?_⟩) (by assumption) ?_
    rotate_left 1
    · intro W' hSw
      obtain ⟨hS1, hS2, hS3⟩ := hSw
      go_simp
      try with_reducible rfl
    try simp only [Act.put, List.setIfInBounds_toArray, List.set_cons_zero, List.set_cons_succ]
    refine wpAnyH_take (i := 13) (oi := ⟨_, _, _, _, _, _⟩) (v := undef) rfl (by kernel_rfl) (by kernel_rfl) (by kernel_rfl) (fun _ _ _ h => h) (Or.inr ⟨by rfl, rfl⟩) (by assumption) ?_
    try simp only [Act.put, List.setIfInBounds_toArray, List.set_cons_zero, List.set_cons_succ]
    refine wpAnyH_take (i := 14) (oi := ⟨_, _, _, _, _, _⟩) (v := undef) rfl (by kernel_rfl) (by kernel_rfl) (by kernel_rfl) (fun _ _ _ h => h) (Or.inr ⟨by rfl, rfl⟩) (by assumption) ?_
    try simp only [Act.put, List.setIfInBounds_toArray, List.set_cons_zero, List.set_cons_succ]
    refine wpAnyH_take (i := 15) (oi := ⟨_, _, _, _, _, _⟩) (v := undef) rfl (by kernel_rfl) (by kernel_rfl) (by kernel_rfl) (fun _ _ _ h => h) (Or.inr ⟨by rfl, rfl⟩) (by assumption) ?_
    try simp only [Act.put, List.setIfInBounds_toArray, List.set_cons_zero, List.set_cons_succ]
    refine wpAnyH_take (i := 16) (oi := ⟨_, _, _, _, _, _⟩) (v := undef) rfl (by kernel_rfl) (by kernel_rfl) (by kernel_rfl) (fun _ _ _ h => h) (Or.inr ⟨by rfl, rfl⟩) (by assumption) ?_
    try simp only [Act.put, List.setIfInBounds_toArray, List.set_cons_zero, List.set_cons_succ]
    refine wpAnyH_take (i := 17) (oi := ⟨_, _, _, _, _, _⟩) (v := undef) rfl (by kernel_rfl) (by kernel_rfl) (by kernel_rfl) (fun _ _ _ h => h) (Or.inr ⟨by rfl, rfl⟩) (by assumption) ?_
    try simp only [Act.put, List.setIfInBounds_toArray, List.set_cons_zero, List.set_cons_succ]
    refine wpAnyH_take (i := 18) (oi := ⟨_, _, _, _, _, _⟩) (v := undef) rfl (by kernel_rfl) (by kernel_rfl) (by kernel_rfl) (fun _ _ _ h => h) (Or.inr ⟨by rfl, rfl⟩) (by assumption) ?_
    try simp only [Act.put, List.setIfInBounds_toArray, List.set_cons_zero, List.set_cons_succ]
    refine wpAnyH_take (i := 19) (oi := ⟨_, _, _, _, _, _⟩) (v := undef) rfl (by kernel_rfl) (by kernel_rfl) (by kernel_rfl) (fun _ _ _ h => h) (Or.inr ⟨by rfl, rfl⟩) (by assumption) ?_
    try simp only [Act.put, List.setIfInBounds_toArray, List.set_cons_zero, List.set_cons_succ]
    refine wpAnyH_take (i := 20) (oi := ⟨_, _, _, _, _, _⟩) (v := undef) rfl (by kernel_rfl) (by kernel_rfl) (by kernel_rfl) (fun _ _ _ h => h) (Or.inr ⟨by rfl, rfl⟩) (by assumption) ?_
    try simp only [Act.put, List.setIfInBounds_toArray, List.set_cons_zero, List.set_cons_succ]
    refine wpAnyH_take (i := 21) (oi := ⟨_, _, _, _, _, _⟩) (v := undef) rfl (by kernel_rfl) (by kernel_rfl) (by kernel_rfl) (fun _ _ _ h => h) (Or.inr ⟨by rfl, rfl⟩) (by assumption) ?_
    try simp only [Act.put, List.setIfInBounds_toArray, List.set_cons_zero, List.set_cons_succ]
    refine wpAnyH_take (i := 22) (oi := ⟨_, _, _, _, _, _⟩) (v := undef) rfl (by kernel_rfl) (by kernel_rfl) (by kernel_rfl) (fun _ _ _ h => h) (Or.inr ⟨by rfl, rfl⟩) (by assumption) ?_
    try simp only [Act.put, List.setIfInBounds_toArray, List.set_cons_zero, List.set_cons_succ]
    refine wpAnyH_take (i := 23) (oi := ⟨_, _, _, _, _, _⟩) (v := undef) rfl (by kernel_rfl) (by kernel_rfl) (by kernel_rfl) (fun _ _ _ h => h) (Or.inr ⟨by rfl, rfl⟩) (by assumption) ?_
    try simp only [Act.put, List.setIfInBounds_toArray, List.set_cons_zero, List.set_cons_succ]
    refine wpAnyH_take (i := 24) (oi := ⟨_, _, _, _, _, _⟩) (v := undef) rfl (by kernel_rfl) (by kernel_rfl) (by kernel_rfl) (fun _ _ _ h => h) (Or.inr ⟨by rfl, rfl⟩) (by assumption) ?_
    try simp only [Act.put, List.setIfInBounds_toArray, List.set_cons_zero, List.set_cons_succ]
    refine wpAnyH_take (i := 25) (oi := ⟨_, _, _, _, _, _⟩) (v := undef) rfl (by kernel_rfl) (by kernel_rfl) (by kernel_rfl) (fun _ _ _ h => h) (Or.inr ⟨by rfl, rfl⟩) (by assumption) ?_
    try simp only [Act.put, List.setIfInBounds_toArray, List.set_cons_zero, List.set_cons_succ]
    refine wpAnyH_take (i := 26) (oi := ⟨_, _, _, _, _, _⟩) (v := undef) rfl (by kernel_rfl) (by kernel_rfl) (by kernel_rfl) (fun _ _ _ h => h) (Or.inr ⟨by rfl, rfl⟩) (by assumption) ?_
    try simp only [Act.put, List.setIfInBounds_toArray, List.set_cons_zero, List.set_cons_succ]
    refine wpAnyH_take (i := 27) (oi := ⟨_, _, _, _, _, _⟩) (v := undef) rfl (by kernel_rfl) (by kernel_rfl) (by kernel_rfl) (fun _ _ _ h => h) (Or.inr ⟨by rfl, rfl⟩) (by assumption) ?_
    try simp only [Act.put, List.setIfInBounds_toArray, List.set_cons_zero, List.set_cons_succ]
    refine wpAnyH_take (i := 28) (oi := ⟨_, _, _, _, _, _⟩) (v := undef) rfl (by kernel_rfl) (by kernel_rfl) (by kernel_rfl) (fun _ _ _ h => h) (Or.inr ⟨by rfl, rfl⟩) (by assumption) ?_
    try simp only [Act.put, List.setIfInBounds_toArray, List.set_cons_zero, List.set_cons_succ]
    refine wpAnyH_take (i := 29) (oi := ⟨_, _, _, _, _, _⟩) (v := undef) rfl (by kernel_rfl) (by kernel_rfl) (by kernel_rfl) (fun _ _ _ h => h) (Or.inr ⟨by rfl, rfl⟩) (by assumption) ?_
    try simp only [Act.put, List.setIfInBounds_toArray, List.set_cons_zero, List.set_cons_succ]
    refine wpAnyH_take (i := 30) (oi := ⟨_, _, _, _, _, _⟩) (v := undef) rfl (by kernel_rfl) (by kernel_rfl) (by kernel_rfl) (fun _ _ _ h => h) (Or.inr ⟨by rfl, rfl⟩) (by assumption) ?_
    try simp only [Act.put, List.setIfInBounds_toArray, List.set_cons_zero, List.set_cons_succ]
    refine wpAnyH_take (i := 31) (oi := ⟨_, _, _, _, _, _⟩) (v := undef) rfl (by kernel_rfl) (by kernel_rfl) (by kernel_rfl) (fun _ _ _ h => h) (Or.inr ⟨by rfl, rfl⟩) (by assumption) ?_
    try simp only [Act.put, List.setIfInBounds_toArray, List.set_cons_zero, List.set_cons_succ]
    refine wpAnyH_take (i := 32) (oi := ⟨_, _, _, _, _, _⟩) (v := undef) rfl (by kernel_rfl) (by kernel_rfl) (by kernel_rfl) (fun _ _ _ h => h) (Or.inr ⟨by rfl, rfl⟩) (by assumption) ?_
    try simp only [Act.put, List.setIfInBounds_toArray, List.set_cons_zero, List.set_cons_succ]
    refine wpAnyH_take (i := 33) (oi := ⟨_, _, _, _, _, _⟩) (v := undef) rfl (by kernel_rfl) (by kernel_rfl) (by kernel_rfl) (fun _ _ _ h => h) (Or.inr ⟨by rfl, rfl⟩) (by assumption) ?_
    try simp only [Act.put, List.setIfInBounds_toArray, List.set_cons_zero, List.set_cons_succ]
    refine wpAnyH_take (i := 34) (oi := ⟨_, _, _, _, _, _⟩) (v := undef) rfl (by kernel_rfl) (by kernel_rfl) (by kernel_rfl) (fun _ _ _ h => h) (Or.inr ⟨by rfl, rfl⟩) (by assumption) ?_
    try simp only [Act.put, List.setIfInBounds_toArray, List.set_cons_zero, List.set_cons_succ]
    refine wpAnyH_take (i := 35) (oi := ⟨_, _, _, _, _, _⟩) (v := undef) rfl (by kernel_rfl) (by kernel_rfl) (by kernel_rfl) (fun _ _ _ h => h) (Or.inr ⟨by rfl, rfl⟩) (by assumption) ?_
    try simp only [Act.put, List.setIfInBounds_toArray, List.set_cons_zero, List.set_cons_succ]
    refine wpAnyH_take (i := 36) (oi := ⟨_, _, _, _, _, _⟩) (v := undef) rfl (by kernel_rfl) (by kernel_rfl) (by kernel_rfl) (fun _ _ _ h => h) (Or.inr ⟨by rfl, rfl⟩) (by assumption) ?_
    try simp only [Act.put, List.setIfInBounds_toArray, List.set_cons_zero, List.set_cons_succ]
    refine wpAnyH_take (i := 37) (oi := ⟨_, _, _, _, _, _⟩) (v := ?_) rfl (by kernel_rfl) (by kernel_rfl) (by kernel_rfl) (fun _ _ _ h => h) (Or.inl ⟨by rfl, ?_⟩) (by assumption) ?_
    rotate_left 1
    · intro W' hSw
      obtain ⟨hS1, hS2, hS3⟩ := hSw
      go_simp
      try with_reducible rfl
    try simp only [Act.put, List.setIfInBounds_toArray, List.set_cons_zero, List.set_cons_succ]
    refine wpAnyH_done (by kernel_rfl) ?_ _

    clear hHeld
    go_wp2_with fail
    refine ⟨rfl, rfl, ⟨rfl, rfl, k + 1, by omega, ?_, HJ⟩, ?_⟩
    · show Value.int .i64 _ = _
      go_num
    · show xn - (intOf (Value.int .i64 _)).toNat < xn - (intOf (F9 11)).toNat
      rw [H11.out]
      simp [intOf]; omega

  | true =>
    obtain ⟨zp, ezp⟩ : ∃ zp, zp = z.atom.pred := ⟨_, rfl⟩
    rw [← ezp] at g4
    have EZP := hid_of ezp
    have hre := reaches_any Y1.drew b 0 p (HPO.out.sub (Sub.ext (extends_drew HXW.out))) (by rw [HQN.out]; omega) (by rw [← HUN.out]; omega) (fun r9 hr9 => by
      have h9 := HFT.out r9 hr9
      unfold rlB atB at h9
      simp only [Bool.and_eq_true, decide_eq_true_eq] at h9
      exact ⟨h9.1.1, Nat.le_trans (HB8.out r9 hr9) (by decide)⟩) pr zp (by rw [EPR.out]; exact HPL.out)
    clear ezp
    go_upto_region 44 with fail
    repeat go_step
    refine wp_region_held_drew (S := fun W' => blk W' b = some Ce ∧ blk W' bu = some CU ∧ blk W' bl = some CL) (by kernel_rfl) ⟨hbW, hbu2, hbl⟩ (fun hHeld => ?_)
    refine wpAnyH_take (i := 0) (oi := ⟨_, _, _, _, _, _⟩) (v := ?_) rfl (by kernel_rfl) (by kernel_rfl) (by kernel_rfl) (fun _ _ _ h => h) (Or.inl ⟨by rfl, ?_⟩) (by assumption) ?_
    rotate_left 1
    · intro W' hSw
      obtain ⟨hS1, hS2, hS3⟩ := hSw
      go_simp
      try with_reducible rfl
    try simp only [Act.put, List.setIfInBounds_toArray, List.set_cons_zero, List.set_cons_succ]
    refine wpAnyH_take (i := 1) (oi := ⟨_, _, _, _, _, _⟩) (v := ?_) rfl (by kernel_rfl) (by kernel_rfl) (by kernel_rfl) (fun _ _ _ h => h) (Or.inl ⟨by rfl, ?_⟩) (by assumption) ?_
    rotate_left 1
    · intro W' hSw
      obtain ⟨hS1, hS2, hS3⟩ := hSw
      go_simp
      try with_reducible rfl
    try simp only [Act.put, List.setIfInBounds_toArray, List.set_cons_zero, List.set_cons_succ]
    refine wpAnyH_take (i := 2) (oi := ⟨_, _, _, _, _, _⟩) (v := ?_) rfl (by kernel_rfl) (by kernel_rfl) (by kernel_rfl) (fun _ _ _ h => h) (Or.inl ⟨by rfl, ?_⟩) (by assumption) ?_
    rotate_left 1
    · intro W' hSw
      obtain ⟨hS1, hS2, hS3⟩ := hSw
      go_simp
      try with_reducible rfl
    try simp only [Act.put, List.setIfInBounds_toArray, List.set_cons_zero, List.set_cons_succ]
    refine wpAnyH_take (i := 3) (oi := ⟨_, _, _, _, _, _⟩) (v := ?_) rfl (by kernel_rfl) (by kernel_rfl) (by kernel_rfl) (fun _ _ _ h => h) (Or.inl ⟨by rfl, ?_⟩) (by assumption) ?_
    rotate_left 1
    · intro W' hSw
      obtain ⟨hS1, hS2, hS3⟩ := hSw
      go_simp
      try with_reducible rfl
    try simp only [Act.put, List.setIfInBounds_toArray, List.set_cons_zero, List.set_cons_succ]
    refine wpAnyH_take (i := 4) (oi := ⟨_, _, _, _, _, _⟩) (v := ?_) rfl (by kernel_rfl) (by kernel_rfl) (by kernel_rfl) (fun _ _ _ h => h) (Or.inl ⟨by rfl, ?_⟩) (by assumption) ?_
    rotate_left 1
    · intro W' hSw
      obtain ⟨hS1, hS2, hS3⟩ := hSw
      go_simp
      try with_reducible rfl
    try simp only [Act.put, List.setIfInBounds_toArray, List.set_cons_zero, List.set_cons_succ]
    refine wpAnyH_take (i := 5) (oi := ⟨_, _, _, _, _, _⟩) (v := ?_) rfl (by kernel_rfl) (by kernel_rfl) (by kernel_rfl) (fun _ _ _ h => h) (Or.inl ⟨by rfl, ?_⟩) (by assumption) ?_
    rotate_left 1
    · intro W' hSw
      obtain ⟨hS1, hS2, hS3⟩ := hSw
      go_simp
      try with_reducible rfl
    try simp only [Act.put, List.setIfInBounds_toArray, List.set_cons_zero, List.set_cons_succ]
    refine wpAnyH_take (i := 6) (oi := ⟨_, _, _, _, _, _⟩) (v := ?_) rfl (by kernel_rfl) (by kernel_rfl) (by kernel_rfl) (fun _ _ _ h => h) (Or.inl ⟨by rfl, ?_⟩) (by assumption) ?_
    rotate_left 1
    · intro W' hSw
      obtain ⟨hS1, hS2, hS3⟩ := hSw
      go_simp
      try with_reducible rfl
    try simp only [Act.put, List.setIfInBounds_toArray, List.set_cons_zero, List.set_cons_succ]
    refine wpAnyH_take (i := 7) (oi := ⟨_, _, _, _, _, _⟩) (v := ?_) rfl (by kernel_rfl) (by kernel_rfl) (by kernel_rfl) (fun _ _ _ h => h) (Or.inl ⟨by rfl, ?_⟩) (by assumption) ?_
    rotate_left 1
    · intro W' hSw
      obtain ⟨hS1, hS2, hS3⟩ := hSw
      go_simp
      try with_reducible rfl
    try simp only [Act.put, List.setIfInBounds_toArray, List.set_cons_zero, List.set_cons_succ]
    refine wpAnyH_take (i := 8) (oi := ⟨_, _, _, _, _, _⟩) (v := ?_) rfl (by kernel_rfl) (by kernel_rfl) (by kernel_rfl) (fun _ _ _ h => h) (Or.inl ⟨by rfl, ?_⟩) (by assumption) ?_
    rotate_left 1
    · intro W' hSw
      obtain ⟨hS1, hS2, hS3⟩ := hSw
      go_simp
      try with_reducible rfl
    try simp only [Act.put, List.setIfInBounds_toArray, List.set_cons_zero, List.set_cons_succ]
    refine wpAnyH_take (i := 9) (oi := ⟨_, _, _, _, _, _⟩) (v := ?_) rfl (by kernel_rfl) (by kernel_rfl) (by kernel_rfl) (fun _ _ _ h => h) (Or.inl ⟨by rfl, ?_⟩) (by assumption) ?_
    rotate_left 1
    · intro W' hSw
      obtain ⟨hS1, hS2, hS3⟩ := hSw
      go_simp
      try with_reducible rfl
    try simp only [Act.put, List.setIfInBounds_toArray, List.set_cons_zero, List.set_cons_succ]
    refine wpAnyH_take (i := 10) (oi := ⟨_, _, _, _, _, _⟩) (v := ?_) rfl (by kernel_rfl) (by kernel_rfl) (by kernel_rfl) (fun _ _ _ h => h) (Or.inl ⟨by rfl, ?_⟩) (by assumption) ?_
    rotate_left 1
    · intro W' hSw
      obtain ⟨hS1, hS2, hS3⟩ := hSw
      go_simp
      try with_reducible rfl
    try simp only [Act.put, List.setIfInBounds_toArray, List.set_cons_zero, List.set_cons_succ]
    refine wpAnyH_take (i := 11) (oi := ⟨_, _, _, _, _, _⟩) (v := ?_) rfl (by kernel_rfl) (by kernel_rfl) (by kernel_rfl) (fun _ _ _ h => h) (Or.inl ⟨by rfl, ?_⟩) (by assumption) ?_
    rotate_left 1
    · intro W' hSw
      obtain ⟨hS1, hS2, hS3⟩ := hSw
      go_simp
      try with_reducible rfl
    try simp only [Act.put, List.setIfInBounds_toArray, List.set_cons_zero, List.set_cons_succ]
    refine wpAnyH_take (i := 12) (oi := ⟨_, _, _, _, _, _⟩) (v := ?_) rfl (by kernel_rfl) (by kernel_rfl) (by kernel_rfl) (fun _ _ _ h => h) (Or.inl ⟨by rfl, ?_⟩) (by assumption) ?_
    rotate_left 1
    · intro W' hSw
      obtain ⟨hS1, hS2, hS3⟩ := hSw
      go_simp
      try with_reducible rfl
    try simp only [Act.put, List.setIfInBounds_toArray, List.set_cons_zero, List.set_cons_succ]
    refine wpAnyH_take (i := 13) (oi := ⟨_, _, _, _, _, _⟩) (v := ?_) rfl (by kernel_rfl) (by kernel_rfl) (by kernel_rfl) (fun _ _ _ h => h) (Or.inl ⟨by rfl, ?_⟩) (by assumption) ?_
    rotate_left 1
    · intro W' hSw
      obtain ⟨hS1, hS2, hS3⟩ := hSw
      go_simp
      try with_reducible rfl
    try simp only [Act.put, List.setIfInBounds_toArray, List.set_cons_zero, List.set_cons_succ]
    refine wpAnyH_take (i := 14) (oi := ⟨_, _, _, _, _, _⟩) (v := ?_) rfl (by kernel_rfl) (by kernel_rfl) (by kernel_rfl) (fun _ _ _ h => h) (Or.inl ⟨by rfl, ?_⟩) (by assumption) ?_
    rotate_left 1
    · intro W' hSw
      obtain ⟨hS1, hS2, hS3⟩ := hSw
      go_simp
      try with_reducible rfl
    try simp only [Act.put, List.setIfInBounds_toArray, List.set_cons_zero, List.set_cons_succ]
    refine wpAnyH_take (i := 15) (oi := ⟨_, _, _, _, _, _⟩) (v := ?_) rfl (by kernel_rfl) (by kernel_rfl) (by kernel_rfl) (fun _ _ _ h => h) (Or.inl ⟨by rfl, ?_⟩) (by assumption) ?_
    rotate_left 1
    · intro W' hSw
      obtain ⟨hS1, hS2, hS3⟩ := hSw
      go_simp
      try with_reducible rfl
    try simp only [Act.put, List.setIfInBounds_toArray, List.set_cons_zero, List.set_cons_succ]
    refine wpAnyH_take (i := 16) (oi := ⟨_, _, _, _, _, _⟩) (v := ?_) rfl (by kernel_rfl) (by kernel_rfl) (by kernel_rfl) (fun _ _ _ h => h) (Or.inl ⟨by rfl, ?_⟩) (by assumption) ?_
    rotate_left 1
    · intro W' hSw
      obtain ⟨hS1, hS2, hS3⟩ := hSw
      go_simp
      try with_reducible rfl
    try simp only [Act.put, List.setIfInBounds_toArray, List.set_cons_zero, List.set_cons_succ]
    refine wpAnyH_take (i := 17) (oi := ⟨_, _, _, _, _, _⟩) (v := ?_) rfl (by kernel_rfl) (by kernel_rfl) (by kernel_rfl) (fun _ _ _ h => h) (Or.inl ⟨by rfl, ?_⟩) (by assumption) ?_
    rotate_left 1
    · intro W' hSw
      obtain ⟨hS1, hS2, hS3⟩ := hSw
      go_simp
      try with_reducible rfl
    try simp only [Act.put, List.setIfInBounds_toArray, List.set_cons_zero, List.set_cons_succ]
    refine wpAnyH_take (i := 18) (oi := ⟨_, _, _, _, _, _⟩) (v := ?_) rfl (by kernel_rfl) (by kernel_rfl) (by kernel_rfl) (fun _ _ _ h => h) (Or.inl ⟨by rfl, ?_⟩) (by assumption) ?_
    rotate_left 1
    · intro W' hSw
      obtain ⟨hS1, hS2, hS3⟩ := hSw
      go_simp
      try with_reducible rfl
    try simp only [Act.put, List.setIfInBounds_toArray, List.set_cons_zero, List.set_cons_succ]
    refine wpAnyH_take (i := 19) (oi := ⟨_, _, _, _, _, _⟩) (v := ?_) rfl (by kernel_rfl) (by kernel_rfl) (by kernel_rfl) (fun _ _ _ h => h) (Or.inl ⟨by rfl, ?_⟩) (by assumption) ?_
    rotate_left 1
    · intro W' hSw
      obtain ⟨hS1, hS2, hS3⟩ := hSw
      go_simp
      try with_reducible rfl
    try simp only [Act.put, List.setIfInBounds_toArray, List.set_cons_zero, List.set_cons_succ]
    refine wpAnyH_take (i := 20) (oi := ⟨_, _, _, _, _, _⟩) (v := ?_) rfl (by kernel_rfl) (by kernel_rfl) (by kernel_rfl) (fun _ _ _ h => h) (Or.inl ⟨by rfl, ?_⟩) (by assumption) ?_
    rotate_left 1
    · intro W' hSw
      obtain ⟨hS1, hS2, hS3⟩ := hSw
      go_simp
      try with_reducible rfl
    try simp only [Act.put, List.setIfInBounds_toArray, List.set_cons_zero, List.set_cons_succ]
    refine wpAnyH_take (i := 21) (oi := ⟨_, _, _, _, _, _⟩) (v := ?_) rfl (by kernel_rfl) (by kernel_rfl) (by kernel_rfl) (fun _ _ _ h => h) (Or.inl ⟨by rfl, ?_⟩) (by assumption) ?_
    rotate_left 1
    · intro W' hSw
      obtain ⟨hS1, hS2, hS3⟩ := hSw
      go_simp
      try with_reducible rfl
    try simp only [Act.put, List.setIfInBounds_toArray, List.set_cons_zero, List.set_cons_succ]
    refine wpAnyH_take (i := 22) (oi := ⟨_, _, _, _, _, _⟩) (v := ?_) rfl (by kernel_rfl) (by kernel_rfl) (by kernel_rfl) (fun _ _ _ h => h) (Or.inl ⟨by rfl, ?_⟩) (by assumption) ?_
    rotate_left 1
    · intro W' hSw
      obtain ⟨hS1, hS2, hS3⟩ := hSw
      go_simp
      try with_reducible rfl
    try simp only [Act.put, List.setIfInBounds_toArray, List.set_cons_zero, List.set_cons_succ]
    refine wpAnyH_take (i := 23) (oi := ⟨_, _, _, _, _, _⟩) (v := ?_) rfl (by kernel_rfl) (by kernel_rfl) (by kernel_rfl) (fun _ _ _ h => h) (Or.inl ⟨by rfl, ?_⟩) (by assumption) ?_
    rotate_left 1
    · intro W' hSw
      obtain ⟨hS1, hS2, hS3⟩ := hSw
      go_simp
      try with_reducible rfl
    try simp only [Act.put, List.setIfInBounds_toArray, List.set_cons_zero, List.set_cons_succ]
    refine wpAnyH_take (i := 24) (oi := ⟨_, _, _, _, _, _⟩) (v := ?_) rfl (by kernel_rfl) (by kernel_rfl) (by kernel_rfl) (fun _ _ _ h => h) (Or.inl ⟨by rfl, ?_⟩) (by assumption) ?_
    rotate_left 1
    · intro W' hSw
      obtain ⟨hS1, hS2, hS3⟩ := hSw
      go_simp
      try with_reducible rfl
    try simp only [Act.put, List.setIfInBounds_toArray, List.set_cons_zero, List.set_cons_succ]
    refine wpAnyH_take (i := 25) (oi := ⟨_, _, _, _, _, _⟩) (v := ?_) rfl (by kernel_rfl) (by kernel_rfl) (by kernel_rfl) (fun _ _ _ h => h) (Or.inl ⟨by rfl, ?_⟩) (by assumption) ?_
    rotate_left 1
    · intro W' hSw
      obtain ⟨hS1, hS2, hS3⟩ := hSw
      go_simp
      try with_reducible rfl
    try simp only [Act.put, List.setIfInBounds_toArray, List.set_cons_zero, List.set_cons_succ]
    refine wpAnyH_take (i := 26) (oi := ⟨_, _, _, _, _, _⟩) (v := ?_) rfl (by kernel_rfl) (by kernel_rfl) (by kernel_rfl) (fun _ _ _ h => h) (Or.inl ⟨by rfl, ?_⟩) (by assumption) ?_
    rotate_left 1
    · intro W' hSw
      obtain ⟨hS1, hS2, hS3⟩ := hSw
      go_simp
      try with_reducible rfl
    try simp only [Act.put, List.setIfInBounds_toArray, List.set_cons_zero, List.set_cons_succ]
    refine wpAnyH_take (i := 27) (oi := ⟨_, _, _, _, _, _⟩) (v := ?_) rfl (by kernel_rfl) (by kernel_rfl) (by kernel_rfl) (fun _ _ _ h => h) (Or.inl ⟨by rfl, ?_⟩) (by assumption) ?_
    rotate_left 1
    · intro W' hSw
      obtain ⟨hS1, hS2, hS3⟩ := hSw
      go_simp
      try with_reducible rfl
    try simp only [Act.put, List.setIfInBounds_toArray, List.set_cons_zero, List.set_cons_succ]
    refine wpAnyH_take (i := 28) (oi := ⟨_, _, _, _, _, _⟩) (v := ?_) rfl (by kernel_rfl) (by kernel_rfl) (by kernel_rfl) (fun _ _ _ h => h) (Or.inl ⟨by rfl, ?_⟩) (by assumption) ?_
    rotate_left 1
    · intro W' hSw
      obtain ⟨hS1, hS2, hS3⟩ := hSw
      go_simp
      try with_reducible rfl
    try simp only [Act.put, List.setIfInBounds_toArray, List.set_cons_zero, List.set_cons_succ]
    refine wpAnyH_take (i := 29) (oi := ⟨_, _, _, _, _, _⟩) (v := ?_) rfl (by kernel_rfl) (by kernel_rfl) (by kernel_rfl) (fun _ _ _ h => h) (Or.inl ⟨by rfl, ?_⟩) (by assumption) ?_
    rotate_left 1
    · intro W' hSw
      obtain ⟨hS1, hS2, hS3⟩ := hSw
      go_simp
      try with_reducible rfl
    try simp only [Act.put, List.setIfInBounds_toArray, List.set_cons_zero, List.set_cons_succ]
    refine wpAnyH_take (i := 30) (oi := ⟨_, _, _, _, _, _⟩) (v := ?_) rfl (by kernel_rfl) (by kernel_rfl) (by kernel_rfl) (fun _ _ _ h => h) (Or.inl ⟨by rfl, ?_⟩) (by assumption) ?_
    rotate_left 1
    · intro W' hSw
      obtain ⟨hS1, hS2, hS3⟩ := hSw
      go_simp
      try with_reducible rfl
    try simp only [Act.put, List.setIfInBounds_toArray, List.set_cons_zero, List.set_cons_succ]
    refine wpAnyH_take (i := 31) (oi := ⟨_, _, _, _, _, _⟩) (v := ?_) rfl (by kernel_rfl) (by kernel_rfl) (by kernel_rfl) (fun _ _ _ h => h) (Or.inl ⟨by rfl, ?_⟩) (by assumption) ?_
    rotate_left 1
    · intro W' hSw
      obtain ⟨hS1, hS2, hS3⟩ := hSw
      go_simp
      try with_reducible rfl
    try simp only [Act.put, List.setIfInBounds_toArray, List.set_cons_zero, List.set_cons_succ]
    refine wpAnyH_take (i := 32) (oi := ⟨_, _, _, _, _, _⟩) (v := ?_) rfl (by kernel_rfl) (by kernel_rfl) (by kernel_rfl) (fun _ _ _ h => h) (Or.inl ⟨by rfl, ?_⟩) (by assumption) ?_
    rotate_left 1
    · intro W' hSw
      obtain ⟨hS1, hS2, hS3⟩ := hSw
      go_simp
      try with_reducible rfl
    try simp only [Act.put, List.setIfInBounds_toArray, List.set_cons_zero, List.set_cons_succ]
    refine wpAnyH_take (i := 33) (oi := ⟨_, _, _, _, _, _⟩) (v := ?_) rfl (by kernel_rfl) (by kernel_rfl) (by kernel_rfl) (fun _ _ _ h => h) (Or.inl ⟨by rfl, ?_⟩) (by assumption) ?_
    rotate_left 1
    · intro W' hSw
      obtain ⟨hS1, hS2, hS3⟩ := hSw
      go_simp
      try with_reducible rfl
    try simp only [Act.put, List.setIfInBounds_toArray, List.set_cons_zero, List.set_cons_succ]
    refine wpAnyH_take (i := 34) (oi := ⟨_, _, _, _, _, _⟩) (v := ?_) rfl (by kernel_rfl) (by kernel_rfl) (by kernel_rfl) (fun _ _ _ h => h) (Or.inl ⟨by rfl, ?_⟩) (by assumption) ?_
    rotate_left 1
    · intro W' hSw
      obtain ⟨hS1, hS2, hS3⟩ := hSw
      go_simp
      try with_reducible rfl
    try simp only [Act.put, List.setIfInBounds_toArray, List.set_cons_zero, List.set_cons_succ]
    refine wpAnyH_take (i := 35) (oi := ⟨_, _, _, _, _, _⟩) (v := ?_) rfl (by kernel_rfl) (by kernel_rfl) (by kernel_rfl) (fun _ _ _ h => h) (Or.inl ⟨by rfl, ?_⟩) (by assumption) ?_
    rotate_left 1
    · intro W' hSw
      obtain ⟨hS1, hS2, hS3⟩ := hSw
      go_simp
      try with_reducible rfl
    try simp only [Act.put, List.setIfInBounds_toArray, List.set_cons_zero, List.set_cons_succ]
    refine wpAnyH_ready (rs := [36]) (by kernel_rfl) (by simp) ?_
    refine AllReadyH.cons (o := ⟨_, _, _, _, _, _⟩) rfl (fun K' hK => ?_) AllReadyH.nil
    go_simp
    refine hre.mono ?_
    rintro e Y2 ⟨bb, rfl, hrp, hx2⟩
    dsimp only
    refine hK.out _ _ ⟨(hx2.blk (blk_lt (w := Y1.drew) hbW)).trans hbW, (hx2.blk (blk_lt (w := Y1.drew) hbu2)).trans hbu2, (hx2.blk (blk_lt (w := Y1.drew) hbl)).trans hbl⟩ (fun hHeld => ?_)
    clear hK K'
    try simp only [Act.put, List.setIfInBounds_toArray, List.set_cons_zero, List.set_cons_succ]
    refine wpAnyH_take (i := 37) (oi := ⟨_, _, _, _, _, _⟩) (v := ?_) rfl (by kernel_rfl) (by kernel_rfl) (by kernel_rfl) (fun _ _ _ h => h) (Or.inl ⟨by rfl, ?_⟩) (by assumption) ?_
    rotate_left 1
    · intro W' hSw
      obtain ⟨hS1, hS2, hS3⟩ := hSw
      go_simp
      try with_reducible rfl
    try simp only [Act.put, List.setIfInBounds_toArray, List.set_cons_zero, List.set_cons_succ]
    refine wpAnyH_done (by kernel_rfl) ?_ _

    have HX2 : Hid (W.Extends Y2) := (extends_drew HXW.out).trans hx2
    have HCY : Hid (cyR p r z bb) := by show cyR _ _ _ _; unfold cyR; rw [← EZN.out, if_pos rfl, ← EPR.out, ← EZP.out]; exact hrp
    clear hHeld hre hx2 hrp
    cases bb with
    | true =>
      have HP := hid_of (HFIN.out Y2 28 (AcR.cyc r z HLM.out HFA.out HNB.out HRE.out (List.mem_of_getElem? HRR.out) (List.mem_of_getElem? HZZ.out) HCY.out) HX2.out)
      clear HALL HALK
      go_wp2_with fail
      try go_ret
      exact HP.out
    | false =>
      have HJ : Hid (W.Extends Y2 ∧ ∀ (m : Nat) (x : PL), m < k + 1 → r.body[m]? = some x → cyR p r x false) := ⟨HX2.out, up_one HALK.out HZZ.out HCY.out⟩
      clear HALL HALK
      go_wp2_with fail
      refine ⟨rfl, rfl, ⟨rfl, rfl, k + 1, by omega, ?_, HJ⟩, ?_⟩
      · show Value.int .i64 _ = _
        go_num
      · show xn - (intOf (Value.int .i64 _)).toNat < xn - (intOf (F9 11)).toNat
        rw [H11.out]
        simp [intOf]; omega

end Go.Proofs.Qxb6500787aGreat
