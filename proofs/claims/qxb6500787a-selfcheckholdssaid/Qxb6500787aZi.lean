import Derived.Test.Qxb6500787aZh
import Derived.StillTailTactics
import Derived.Deep.QuietTactic
import Derived.BigQuiet
import Derived.Deep.RegionHeld
import Derived.Deep.CutRange
import Derived.Laws.ResultCell
import Derived.Laws.Rows
import Derived.DeepKeys
import Derived.DataBytes
import Derived.Laws.StructEq
import Derived.Laws.AppendOwn
import Derived.Laws.MakeOwn
import Derived.Lib.AppendStr
set_option linter.unusedSimpArgs false
set_option linter.unusedVariables false
namespace Go.Proofs.Qxb6500787a
open Go.RowKit Go.Blk
attribute [local go_sem ↓] execOp_load execOp_store execOp_alloc
attribute [local go_sem] Try.ld26 Try.st26 Try.ld27 Try.st27 Try.ld28 Try.st28 Try.ld3 Try.st3 Try.ld29 Try.st29 Try.ld44 Try.st44 Try.ld4 Try.st4 Try.ld50 Try.st50 Try.ld32 Try.st32 Try.ld49 Try.st49 Try.ld68 Try.st68 Try.ld9 Try.st9 Try.ld40 Try.st40 Try.ld138 Try.st138 Try.ld139 Try.st139 Try.ld146 Try.st146 Try.ld183 Try.st183 Try.ld184 Try.st184 Try.ld192 Try.st192 Try.ld195 Try.st195 Try.ld217 Try.st217 Try.ld159 Try.st159 Try.ld142 Try.st142 Try.ld2 Try.st2 Try.ld5 Try.st5 Try.ld12 Try.st12 Try.ld21 Try.st21 Try.ld22 Try.st22 Try.ld24 Try.st24 Try.ld58 Try.st58 Try.ld63 Try.st63 Try.ld97 Try.st97 Try.ld101 Try.st101 Try.ld116 Try.st116 Try.ld121 Try.st121 Try.ld135 Try.st135 Try.ld136 Try.st136 Try.ld143 Try.st143 Try.ld148 Try.st148 Try.ld154 Try.st154 Try.ld173 Try.st173 Try.ld187 Try.st187 Try.ld222 Try.st222 Try.ld241 Try.st241 Try.ld248 Try.st248 Try.ld268 Try.st268 Try.ld272 Try.st272 Try.ld153 Try.st153 Try.ld255 Try.st255 Try.ld256 Try.st256 Try.ld129 Try.st129 Try.ld152 Try.st152 Try.ld31 Try.st31 Try.ld46 Try.st46 Try.ld52 Try.st52 Try.ld54 Try.st54 Try.ld60 Try.st60 Try.ld70 Try.st70 Try.ld74 Try.st74 Try.ld93 Try.st93 Try.ld119 Try.st119 Try.ld141 Try.st141 Try.ld151 Try.st151 Try.ld170 Try.st170 Try.ld186 Try.st186 Try.ld189 Try.st189 Try.ld194 Try.st194 Try.ld197 Try.st197 Try.ld219 Try.st219 Try.ld224 Try.st224 Try.ld230 Try.st230 Try.ld235 Try.st235 Try.ld243 Try.st243 Try.ld247 Try.st247 Try.ld252 Try.st252 Try.ld258 Try.st258 Try.al153 Try.al255 Try.al256 Try.al129 Try.al152 Try.al31 Try.al46 Try.al52 Try.al54 Try.al60 Try.al70 Try.al74 Try.al93 Try.al119 Try.al141 Try.al151 Try.al170 Try.al186 Try.al189 Try.al194 Try.al197 Try.al219 Try.al224 Try.al230 Try.al235 Try.al243 Try.al247 Try.al252 Try.al258
attribute [local go_sem] Request.length_enc Request.ok_enc Request.all_get Request.all_set Request.kind_get Request.kind_set Request.blob_get Request.blob_set Request.items_get Request.items_set Request.pred_get Request.pred_set Request.slots_get Request.slots_set Trace.length_enc Trace.ok_enc Trace.all_get Trace.all_set Trace.op_get Trace.op_set Trace.calls_get Trace.calls_set Item.length_enc Item.ok_enc Item.all_get Item.all_set Item.del_get Item.del_set Item.pred_get Item.pred_set Item.args_get Item.args_set Reply.length_enc Reply.ok_enc Reply.all_get Reply.all_set Reply.code_get Reply.code_set Reply.kind_get Reply.kind_set Reply.index_get Reply.index_set Reply.yes_get Reply.yes_set Reply.preds_get Reply.preds_set Reply.rules_get Reply.rules_set Reply.arity_get Reply.arity_set Reply.rows_get Reply.rows_set Reply.fact_get Reply.fact_set Reply.fact_del_get Reply.fact_del_set Reply.fact_pred_get Reply.fact_pred_set Reply.fact_args_get Reply.fact_args_set GEntry.length_enc GEntry.ok_enc GEntry.all_get GEntry.all_set GEntry.seq_get GEntry.seq_set GEntry.kind_get GEntry.kind_set GEntry.code_get GEntry.code_set GOp.length_enc GOp.ok_enc GOp.all_get GOp.all_set GOp.kind_get GOp.kind_set GOp.raw_get GOp.raw_set Reader.length_enc Reader.ok_enc Reader.all_get Reader.all_set Reader.buf_get Reader.buf_set Reader.at__get Reader.at__set Slot.length_enc Slot.ok_enc Slot.all_get Slot.all_set Slot.bound_get Slot.bound_set Slot.name_get Slot.name_set Session.length_enc Session.ok_enc Session.all_get Session.all_set Session.svc_get Session.svc_set Session.buf_get Session.buf_set Session.closed_get Session.closed_set GProgram.length_enc GProgram.ok_enc GProgram.all_get GProgram.all_set GProgram.pool_get GProgram.pool_set GProgram.preds_get GProgram.preds_set GProgram.rules_get GProgram.rules_set GProgram.strata_get GProgram.strata_set PredInfo.length_enc PredInfo.ok_enc PredInfo.all_get PredInfo.all_set PredInfo.arity_get PredInfo.arity_set PredInfo.base_get PredInfo.base_set PredInfo.stratum_get PredInfo.stratum_set Change.length_enc Change.ok_enc Change.all_get Change.all_set Change.del_get Change.del_set Change.pred_get Change.pred_set Change.t_get Change.t_set Store.length_enc Store.ok_enc Store.all_get Store.all_set Store.names_get Store.names_set Store.arity_get Store.arity_set Store.rows_get Store.rows_set Src.length_enc Src.ok_enc Src.all_get Src.all_set Src.b_get Src.b_set Src.at__get Src.at__set Atom.length_enc Atom.ok_enc Atom.all_get Atom.all_set Atom.pred_get Atom.pred_set Atom.args_get Atom.args_set GRule.length_enc GRule.ok_enc GRule.all_get GRule.all_set GRule.head_get GRule.head_set GRule.body_get GRule.body_set GRule.head_pred_get GRule.head_pred_set GRule.head_args_get GRule.head_args_set Cert.length_enc Cert.ok_enc Cert.all_get Cert.all_set Cert.names_get Cert.names_set Cert.nodes_get Cert.nodes_set Fact.length_enc Fact.ok_enc Fact.all_get Fact.all_set Fact.pred_get Fact.pred_set Fact.t_get Fact.t_set Literal.length_enc Literal.ok_enc Literal.all_get Literal.all_set Literal.neg_get Literal.neg_set Literal.atom_get Literal.atom_set Literal.atom_pred_get Literal.atom_pred_set Literal.atom_args_get Literal.atom_args_set Engine.length_enc Engine.ok_enc Engine.all_get Engine.all_set Engine.prog_get Engine.prog_set Engine.st_get Engine.st_set SrcCertm.length_enc SrcCertm.ok_enc SrcCertm.all_get SrcCertm.all_set SrcCertm.b_get SrcCertm.b_set SrcCertm.at__get SrcCertm.at__set GNode.length_enc GNode.ok_enc GNode.all_get GNode.all_set GNode.rule_get GNode.rule_set GNode.pred_get GNode.pred_set GNode.vals_get GNode.vals_set GNode.refs_get GNode.refs_set Term.length_enc Term.ok_enc Term.all_get Term.all_set Term.var_get Term.var_set Term.n_get Term.n_set Env.length_enc Env.ok_enc Env.all_get Env.all_set Env.val_get Env.val_set Env.set_get Env.set_set
attribute [local go_sem] size_put size_ext blk_put free_put blk_alloc free_alloc blk_drew free_drew blk_ext free_ext lookOr_some putOr_some segAt_some cellAt_some storeIn_some put_put put_alloc_new length_arr ok_arr_u8 ok_arr_u32 ok_arr_u64 ok_arr_i64 ok_arr_sl cellsV_agg cellsV_int cellsV_bool cellsV_string cellsV_pointer cellsV_slice cellsV_sl ok_int ok_bool ok_string ok_pointer ok_slice ok_sl toList_arr seg_arr set_arr nth_splice nth_splice0 seg_splice seg_splice0 splice_splice splice_splice0 length_splice_if
attribute [local go_sem ↓] execOp_box
attribute [local go_sem] box_run nth_arr_u8 put_arr_u8 blk_drewN free_drewN put_drewN blk_raw free_raw
def CQ9 (W : World) (b3 : Nat) (V : World) (C : List Value) (u : Nat → Int) : Prop := W.Extends V ∧ blk V b3 = some C ∧ free V b3 = true ∧ CU C u
theorem CQ9.put {W V : World} {b3 : Nat} {C : List Value} {u : Nat → Int} (h : CQ9 W b3 V C u) (hb : W.heap.size ≤ b3) {v : Nat} (hv : v < 256) {x : Int} {u' : Nat → Int} (h1 : u' v = x) (h2 : ∀ y, y ≠ v → u' y = u y) : CQ9 W b3 (put V b3 (splice C v [.int .i64 x])) (splice C v [.int .i64 x]) u' := ⟨(Side.put (D := fun k => k = b3) (Side.refl _ _) rfl _).extends h.1 (fun k hk => by have hk' : k = b3 := hk; omega), by rw [blk_put, if_pos rfl, h.2.1]; rfl, by rw [free_put]; exact h.2.2.1, h.2.2.2.set hv h1 h2⟩
def RwX (V : World) (b3 : Nat) (a : Option Addr) (n : Nat) (L : List Tup) : Prop := Rw tpl 4 V a n L ∧ ∀ b o, a = some ⟨b, o, none⟩ → b ≠ b3
theorem RwX.put {V : World} {b3 : Nat} {a : Option Addr} {n : Nat} {L : List Tup} (h : RwX V b3 a n L) (C : List Value) : RwX (put V b3 C) b3 a n L := by
  refine ⟨⟨h.1.1, fun i x hx => ?_⟩, h.2⟩
  obtain ⟨b, D, h1, h2, h3, h4⟩ := h.1.2 i x hx
  exact ⟨b, D, h1, by rw [blk_put, if_neg (h.2 b 0 h1)]; exact h2, h3, h4⟩
def c1I (W : World) (bi b3 n : Nat) (f : Nat → Value) (V : World) : Prop := f 0 = .pointer (some ⟨bi, 0, none⟩) ∧ f 3 = .pointer (some ⟨b3, 0, none⟩) ∧ ∃ i : Nat, i ≤ n ∧ f 4 = .int .i64 (i : Nat) ∧ Hid (∃ C, CQ9 W b3 V C (fun y => if y < i then 1 else 0))
def c2I (W : World) (bi b3 n : Nat) (t : InsS) (f : Nat → Value) (V : World) : Prop := f 0 = .pointer (some ⟨bi, 0, none⟩) ∧ f 3 = .pointer (some ⟨b3, 0, none⟩) ∧ ∃ p : Nat, p ≤ n ∧ f 5 = .int .i64 (p : Nat) ∧ Hid (∃ C, CQ9 W b3 V C (uP t p))
def c3I (W : World) (bi b3 p : Nat) (t : InsS) (a : Option Addr) (n c : Nat) (f : Nat → Value) (V : World) : Prop := f 0 = .pointer (some ⟨bi, 0, none⟩) ∧ f 3 = .pointer (some ⟨b3, 0, none⟩) ∧ f 5 = .int .i64 (p : Nat) ∧ f 6 = .slice a n c ∧ ∃ i : Nat, i ≤ n ∧ f 7 = .int .i64 (i : Nat) ∧ Hid ((∃ C, CQ9 W b3 V C (uI t p i)) ∧ RwX V b3 a n (rowsAt t.R p))
def c4I (W : World) (bi b3 p : Nat) (t : InsS) (a : Option Addr) (n c i : Nat) (x : Tup) (ar : Nat) (f : Nat → Value) (V : World) : Prop := f 0 = .pointer (some ⟨bi, 0, none⟩) ∧ f 3 = .pointer (some ⟨b3, 0, none⟩) ∧ f 5 = .int .i64 (p : Nat) ∧ f 6 = .slice a n c ∧ f 7 = .int .i64 (i : Nat) ∧ ∃ k : Nat, k ≤ ar ∧ f 8 = .int .i64 (k : Nat) ∧ Hid ((∃ C, CQ9 W b3 V C (uC t p i x k)) ∧ RwX V b3 a n (rowsAt t.R p))
def c5I (W : World) (bi b3 : Nat) (t : InsS) (f : Nat → Value) (V : World) : Prop := f 0 = .pointer (some ⟨bi, 0, none⟩) ∧ f 3 = .pointer (some ⟨b3, 0, none⟩) ∧ ∃ y : Nat, y ≤ 256 ∧ f 9 = .int .i64 ((cntB (fun z => decide (0 < t.U z)) y : Nat) : Int) ∧ f 10 = .int .i64 (y : Nat) ∧ Hid (∃ C, CQ9 W b3 V C t.U)
attribute [local go_sem] Try.al137
set_option maxRecDepth 100000 in
theorem frame174c (f : Nat → Value) : frameN 174 f = #[f 0, f 1, f 2, f 3, f 4, f 5, f 6, f 7, f 8, f 9, f 10, f 11, f 12, f 13, f 14, f 15, f 16, f 17, f 18, f 19, f 20, f 21, f 22, f 23, f 24, f 25, f 26, f 27, f 28, f 29, f 30, f 31, f 32, f 33, f 34, f 35, f 36, f 37, f 38, f 39, f 40, f 41, f 42, f 43, f 44, f 45, f 46, f 47, f 48, f 49, f 50, f 51, f 52, f 53, f 54, f 55, f 56, f 57, f 58, f 59, f 60, f 61, f 62, f 63, f 64, f 65, f 66, f 67, f 68, f 69, f 70, f 71, f 72, f 73, f 74, f 75, f 76, f 77, f 78, f 79, f 80, f 81, f 82, f 83, f 84, f 85, f 86, f 87, f 88, f 89, f 90, f 91, f 92, f 93, f 94, f 95, f 96, f 97, f 98, f 99, f 100, f 101, f 102, f 103, f 104, f 105, f 106, f 107, f 108, f 109, f 110, f 111, f 112, f 113, f 114, f 115, f 116, f 117, f 118, f 119, f 120, f 121, f 122, f 123, f 124, f 125, f 126, f 127, f 128, f 129, f 130, f 131, f 132, f 133, f 134, f 135, f 136, f 137, f 138, f 139, f 140, f 141, f 142, f 143, f 144, f 145, f 146, f 147, f 148, f 149, f 150, f 151, f 152, f 153, f 154, f 155, f 156, f 157, f 158, f 159, f 160, f 161, f 162, f 163, f 164, f 165, f 166, f 167, f 168, f 169, f 170, f 171, f 172, f 173] := by kernel_rfl
set_option maxRecDepth 40000 in
set_option maxHeartbeats 4000000 in
theorem counts_any {B : Nat} {O : Own} {W : World} {g bi : Nat} {t : InsS} (h : InsAt B O W g bi t) (hG : InG t) : Calls Try.prog 61 #[.pointer (some ⟨bi, 0, none⟩)] W fun e V => e = .returned (.bool true) ∧ W.Extends V := by
  obtain ⟨Q, hQ⟩ : ∃ Q : Ending → World → Prop, Q = fun e V => e = .returned (.bool true) ∧ W.Extends V := ⟨_, rfl⟩
  rw [← hQ]
  have HQ := hid_of hQ
  have HG := hid_of hG
  obtain ⟨CI, bst, be, A, hm⟩ := h
  have HM := hid_of hm
  have hbl := blk_lt hm.cell
  have c4 := hm.ic.c4
  have hCl := hm.ic.len
  obtain ⟨Ce, pa, pc, da, dc, ra0, rc0, z1, z2, z3, z4, z5, z6, z7, z8, z9⟩ := (ProgL.c hm.progL).cells
  obtain rfl : CI = Ce := Option.some.inj (hm.cell.symm.trans z1)
  have HZ7 := hid_of z7
  have HZ8 := hid_of z8
  obtain ⟨pl, hpl⟩ : ∃ pl, pl = t.p.pool.length := ⟨_, rfl⟩
  obtain ⟨np, hnp⟩ : ∃ np, np = t.p.preds.length := ⟨_, rfl⟩
  have hpl256 : pl ≤ 256 := by
    have := hG.pre.length_le
    have := hG.nl
    omega
  have hnp64 : np ≤ 64 := by have := hG.pg.pok.nD; omega
  rw [← hpl] at z3 HZ7
  rw [← hnp] at z4 HZ8
  have HPL := hid_of hpl
  have HNP := hid_of hnp
  have l0 : 0 < CI.length := by omega
  have l1 : 1 < CI.length := by omega
  have l4 : 4 < CI.length := by omega
  clear z1 z2 z5 z6 z7 z8 z9 hQ hG hpl hnp hm
  go_enter Try.func61, Try.ntmps61
  go_upto_region 3 with fail
  refine wp_world (fun V => CQ9 W W.heap.size V z256 (fun y => if y < 0 then 1 else 0)) ⟨extends_alloc (ext_Ext (Ext.refl _)) _, by rw [blk_alloc, if_pos rfl], by rw [free_alloc, if_pos rfl], CU.zero.congr (fun y hy => by rw [if_neg (by omega)])⟩ ?_
  intro V0 hV0
  obtain ⟨b3, hb3⟩ : ∃ b3, b3 = W.heap.size := ⟨_, rfl⟩
  rw [← hb3] at hV0 ⊢
  have hW3 : W.heap.size ≤ b3 := by omega
  have nb : ¬ b3 = bi := by omega
  have nb' : ¬ bi = b3 := by omega
  have HI0 : Hid (∃ C, CQ9 W b3 V0 C (fun y => if y < 0 then 1 else 0)) := ⟨_, hV0⟩
  clear hb3 hV0
  refine wp_loop_f 174 (c1I W bi b3 pl) (fun f _ => pl - (intOf (f 4)).toNat) rfl ⟨rfl, rfl, 0, by omega, rfl, HI0⟩ ?_
  clear HI0
  intro F V hrel
  obtain ⟨f0, f3, i, hi, f4, HJ⟩ := hrel
  have H4 := hid_of f4
  rw [frame174c, f0, f3, f4]
  clear f0 f3 f4
  obtain ⟨C, hCQ⟩ := HJ.out
  have HC := hid_of hCQ
  have hbi : blk V bi = some CI := (hCQ.1.blk hbl).trans HM.out.cell
  clear HJ
  by_cases hin : i < pl
  · have hin' : (i : Int) < (pl : Int) := by omega
    have i0 : (0 : Int) ≤ (i : Int) := by omega
    have i2 : ((i : Int)).toNat = i := by omega
    have i256 : (i : Int) < 256 := by omega
    obtain ⟨nm, hnm⟩ : ∃ nm, t.p.pool[i]? = some nm := ⟨_, List.getElem?_eq_getElem (by rw [← HPL.out]; exact hin)⟩
    obtain ⟨bp, CP, rfl, hCP, hcl, hlt, hnth⟩ := rw_cell (HZ7.out.sub (Sub.ext hCQ.1)) hnm (show encS nm = [.string ⟨nm.toArray⟩] from rfl)
    have hlk := lookup_any (HM.out.ext (extends_drew hCQ.1)).st (by have := HG.out.nl; omega) nm
    rw [look_pool HG.out hnm] at hlk
    have hS0 : blk V.drew bi = some CI ∧ blk V.drew bp = some CP := ⟨hbi, hCP⟩
    have HX := hid_of hCQ.1
    have hci := hCQ.2.2.2.at_ i (by omega)
    try dsimp only at hci
    rw [if_neg (by omega)] at hci
    have hl3 := hCQ.2.2.2.len
    have hb3V := hCQ.2.1
    have hf3V := hCQ.2.2.1
    clear hCQ hnm
    go_upto_region 5 with fail
    refine wp_region_held_drew (S := fun W' => blk W' bi = some CI ∧ blk W' bp = some CP) (by kernel_rfl) hS0 (fun hHeld => ?_)
    refine wpAnyH_take (i := 0) (oi := ⟨_, _, _, _, _, _⟩) (v := ?_) rfl (by kernel_rfl) (by kernel_rfl) (by kernel_rfl) (fun _ _ _ h => h) (Or.inl ⟨by rfl, ?_⟩) (by assumption) ?_
    rotate_left 1
    · intro W' hSw
      obtain ⟨hS1, hS2⟩ := hSw
      go_simp
      try with_reducible rfl
    try simp only [Act.put, List.setIfInBounds_toArray, List.set_cons_zero, List.set_cons_succ]
    refine wpAnyH_take (i := 1) (oi := ⟨_, _, _, _, _, _⟩) (v := ?_) rfl (by kernel_rfl) (by kernel_rfl) (by kernel_rfl) (fun _ _ _ h => h) (Or.inl ⟨by rfl, ?_⟩) (by assumption) ?_
    rotate_left 1
    · intro W' hSw
      obtain ⟨hS1, hS2⟩ := hSw
      go_simp
      try with_reducible rfl
    try simp only [Act.put, List.setIfInBounds_toArray, List.set_cons_zero, List.set_cons_succ]
    refine wpAnyH_take (i := 2) (oi := ⟨_, _, _, _, _, _⟩) (v := ?_) rfl (by kernel_rfl) (by kernel_rfl) (by kernel_rfl) (fun _ _ _ h => h) (Or.inl ⟨by rfl, ?_⟩) (by assumption) ?_
    rotate_left 1
    · intro W' hSw
      obtain ⟨hS1, hS2⟩ := hSw
      go_simp
      try with_reducible rfl
    try simp only [Act.put, List.setIfInBounds_toArray, List.set_cons_zero, List.set_cons_succ]
    refine wpAnyH_take (i := 3) (oi := ⟨_, _, _, _, _, _⟩) (v := ?_) rfl (by kernel_rfl) (by kernel_rfl) (by kernel_rfl) (fun _ _ _ h => h) (Or.inl ⟨by rfl, ?_⟩) (by assumption) ?_
    rotate_left 1
    · intro W' hSw
      obtain ⟨hS1, hS2⟩ := hSw
      go_simp
      try with_reducible rfl
    try simp only [Act.put, List.setIfInBounds_toArray, List.set_cons_zero, List.set_cons_succ]
    refine wpAnyH_take (i := 4) (oi := ⟨_, _, _, _, _, _⟩) (v := ?_) rfl (by kernel_rfl) (by kernel_rfl) (by kernel_rfl) (fun _ _ _ h => h) (Or.inl ⟨by rfl, ?_⟩) (by assumption) ?_
    rotate_left 1
    · intro W' hSw
      obtain ⟨hS1, hS2⟩ := hSw
      go_simp
      try with_reducible rfl
    try simp only [Act.put, List.setIfInBounds_toArray, List.set_cons_zero, List.set_cons_succ]
    refine wpAnyH_take (i := 5) (oi := ⟨_, _, _, _, _, _⟩) (v := ?_) rfl (by kernel_rfl) (by kernel_rfl) (by kernel_rfl) (fun _ _ _ h => h) (Or.inl ⟨by rfl, ?_⟩) (by assumption) ?_
    rotate_left 1
    · intro W' hSw
      obtain ⟨hS1, hS2⟩ := hSw
      go_simp
      try with_reducible rfl
    try simp only [Act.put, List.setIfInBounds_toArray, List.set_cons_zero, List.set_cons_succ]
    refine wpAnyH_take (i := 6) (oi := ⟨_, _, _, _, _, _⟩) (v := ?_) rfl (by kernel_rfl) (by kernel_rfl) (by kernel_rfl) (fun _ _ _ h => h) (Or.inl ⟨by rfl, ?_⟩) (by assumption) ?_
    rotate_left 1
    · intro W' hSw
      obtain ⟨hS1, hS2⟩ := hSw
      go_simp
      try with_reducible rfl
    try simp only [Act.put, List.setIfInBounds_toArray, List.set_cons_zero, List.set_cons_succ]
    refine wpAnyH_take (i := 7) (oi := ⟨_, _, _, _, _, _⟩) (v := ?_) rfl (by kernel_rfl) (by kernel_rfl) (by kernel_rfl) (fun _ _ _ h => h) (Or.inl ⟨by rfl, ?_⟩) (by assumption) ?_
    rotate_left 1
    · intro W' hSw
      obtain ⟨hS1, hS2⟩ := hSw
      go_simp
      try with_reducible rfl
    try simp only [Act.put, List.setIfInBounds_toArray, List.set_cons_zero, List.set_cons_succ]
    refine wpAnyH_take (i := 8) (oi := ⟨_, _, _, _, _, _⟩) (v := ?_) rfl (by kernel_rfl) (by kernel_rfl) (by kernel_rfl) (fun _ _ _ h => h) (Or.inl ⟨by rfl, ?_⟩) (by assumption) ?_
    rotate_left 1
    · intro W' hSw
      obtain ⟨hS1, hS2⟩ := hSw
      go_simp
      try with_reducible rfl
    try simp only [Act.put, List.setIfInBounds_toArray, List.set_cons_zero, List.set_cons_succ]
    refine wpAnyH_take (i := 9) (oi := ⟨_, _, _, _, _, _⟩) (v := ?_) rfl (by kernel_rfl) (by kernel_rfl) (by kernel_rfl) (fun _ _ _ h => h) (Or.inl ⟨by rfl, ?_⟩) (by assumption) ?_
    rotate_left 1
    · intro W' hSw
      obtain ⟨hS1, hS2⟩ := hSw
      go_simp
      try with_reducible rfl
    try simp only [Act.put, List.setIfInBounds_toArray, List.set_cons_zero, List.set_cons_succ]
    refine wpAnyH_take (i := 10) (oi := ⟨_, _, _, _, _, _⟩) (v := ?_) rfl (by kernel_rfl) (by kernel_rfl) (by kernel_rfl) (fun _ _ _ h => h) (Or.inl ⟨by rfl, ?_⟩) (by assumption) ?_
    rotate_left 1
    · intro W' hSw
      obtain ⟨hS1, hS2⟩ := hSw
      go_simp
      try with_reducible rfl
    try simp only [Act.put, List.setIfInBounds_toArray, List.set_cons_zero, List.set_cons_succ]
    refine wpAnyH_take (i := 11) (oi := ⟨_, _, _, _, _, _⟩) (v := ?_) rfl (by kernel_rfl) (by kernel_rfl) (by kernel_rfl) (fun _ _ _ h => h) (Or.inl ⟨by rfl, ?_⟩) (by assumption) ?_
    rotate_left 1
    · intro W' hSw
      obtain ⟨hS1, hS2⟩ := hSw
      go_simp
      try with_reducible rfl
    try simp only [Act.put, List.setIfInBounds_toArray, List.set_cons_zero, List.set_cons_succ]
    refine wpAnyH_take (i := 13) (oi := ⟨_, _, _, _, _, _⟩) (v := ?_) rfl (by kernel_rfl) (by kernel_rfl) (by kernel_rfl) (fun _ _ _ h => h) (Or.inl ⟨by rfl, ?_⟩) (by assumption) ?_
    rotate_left 1
    · intro W' hSw
      obtain ⟨hS1, hS2⟩ := hSw
      go_simp
      try with_reducible rfl
    try simp only [Act.put, List.setIfInBounds_toArray, List.set_cons_zero, List.set_cons_succ]
    refine wpAnyH_ready (rs := [12]) (by kernel_rfl) (by simp) ?_
    refine AllReadyH.cons (o := ⟨_, _, _, _, _, _⟩) rfl (fun K' hK => ?_) AllReadyH.nil
    go_simp
    refine hlk.mono ?_
    rintro e V5 ⟨rfl, rfl⟩
    dsimp only
    refine hK.out _ _ hS0 (fun hHeld => ?_)
    clear hK K'
    try simp only [Act.put, List.setIfInBounds_toArray, List.set_cons_zero, List.set_cons_succ]
    refine wpAnyH_take (i := 14) (oi := ⟨_, _, _, _, _, _⟩) (v := ?_) rfl (by kernel_rfl) (by kernel_rfl) (by kernel_rfl) (fun _ _ _ h => h) (Or.inl ⟨by rfl, ?_⟩) (by assumption) ?_
    rotate_left 1
    · intro W' hSw
      obtain ⟨hS1, hS2⟩ := hSw
      go_simp
      try with_reducible rfl
    try simp only [Act.put, List.setIfInBounds_toArray, List.set_cons_zero, List.set_cons_succ]
    refine wpAnyH_done (by kernel_rfl) ?_ _
    clear hHeld hS0 hlk
    go_upto_region 7 with fail
    refine wp_world (fun V' => CQ9 W b3 V' C (fun y => if y < i then 1 else 0)) ⟨extends_drew HX.out, hb3V, hf3V, HC.out.2.2.2⟩ ?_
    intro V2 hC2
    have hb2 := hC2.2.1
    have hf2 := hC2.2.2.1
    have HJ' := hid_of (hC2.put hW3 (v := i) (by omega) (x := 1) (u' := fun y => if y < i + 1 then 1 else 0) (if_pos (by omega)) (fun y hy => by
      by_cases e : y < i
      · rw [if_pos (by omega), if_pos e]
      · rw [if_neg (by omega), if_neg e]))
    clear hC2 hb3V hf3V hCP hnth hbi
    go_wp2_with fail
    refine ⟨rfl, rfl, ⟨rfl, rfl, i + 1, by omega, ?_, ⟨_, HJ'.out⟩⟩, ?_⟩
    · show Value.int .i64 _ = _
      go_num
    · show pl - (intOf (Value.int .i64 _)).toNat < pl - (intOf (F 4)).toNat
      rw [H4.out]
      simp [intOf]; omega
  have hin' : ¬ (i : Int) < (pl : Int) := by omega
  obtain rfl : i = pl := by omega
  have HI0 : Hid (∃ C, CQ9 W b3 V C (uP t 0)) := ⟨C, hCQ.1, hCQ.2.1, hCQ.2.2.1, hCQ.2.2.2.congr (fun y hy => by
    show (if y < i then (1 : Int) else 0) = (((if y < t.p.pool.length then 1 else 0) + 0 : Nat) : Int)
    rw [← HPL.out]
    by_cases e : y < i
    · rw [if_pos e, if_pos e]; rfl
    · rw [if_neg e, if_neg e]; rfl)⟩
  clear HC hCQ hin
  go_upto_region 9 with fail
  clear hbi
  refine wp_loop_f 174 (c2I W bi b3 np t) (fun f _ => np - (intOf (f 5)).toNat) rfl ⟨rfl, rfl, 0, by omega, rfl, HI0⟩ ?_
  clear HI0
  intro F2 V hrel
  obtain ⟨f0, f3, p, hp, f5, HJ⟩ := hrel
  have H5 := hid_of f5
  rw [frame174c, f0, f3, f5]
  clear f0 f3 f5
  obtain ⟨C, hCQ⟩ := HJ.out
  have hbi : blk V bi = some CI := (hCQ.1.blk hbl).trans HM.out.cell
  clear HJ
  by_cases hpn : p < np
  rotate_left 1
  · have hpn' : ¬ (p : Int) < (np : Int) := by omega
    obtain rfl : p = np := by omega
    have HI0 : Hid (∃ C, CQ9 W b3 V C t.U) := ⟨C, hCQ.1, hCQ.2.1, hCQ.2.2.1, hCQ.2.2.2.congr (fun y hy => by rw [HNP.out]; exact uP_end HG.out hy)⟩
    clear hCQ
    go_upto_region 28 with fail
    clear hbi
    refine wp_loop_f 174 (c5I W bi b3 t) (fun f _ => 256 - (intOf (f 10)).toNat) rfl ⟨rfl, rfl, 0, by omega, rfl, rfl, HI0⟩ ?_
    clear HI0
    intro F5 V hrel
    obtain ⟨f0, f3, y, hy, f9, f10, HJ⟩ := hrel
    have H10 := hid_of f10
    rw [frame174c, f0, f3, f9, f10]
    clear f0 f3 f9 f10
    obtain ⟨C, hCQ⟩ := HJ.out
    have hbi : blk V bi = some CI := (hCQ.1.blk hbl).trans HM.out.cell
    clear HJ
    by_cases hyn : y < 256
    · have hyn' : (y : Int) < 256 := by omega
      have y0 : (0 : Int) ≤ (y : Int) := by omega
      have y2 : ((y : Int)).toNat = y := by omega
      have hcy := hCQ.2.2.2.at_ y hyn
      have huy := HM.out.ic.us y hyn
      have hl3 := hCQ.2.2.2.len
      have hb3V := hCQ.2.1
      have lu : 6 + y < CI.length := by omega
      have ly : y < C.length := by omega
      have HCQ : Hid (∀ n, CQ9 W b3 (V.drewN n) C t.U) := fun n => ⟨extends_drewN hCQ.1 n, hCQ.2.1, hCQ.2.2.1, hCQ.2.2.2⟩
      obtain ⟨uy, huy'⟩ : ∃ uy, uy = t.U y := ⟨_, rfl⟩
      rw [← huy'] at hcy huy
      have huu : (uy != uy) = false := by simp
      have hcl := cntB_le (fun z => decide (0 < t.U z)) y
      obtain ⟨lv, hlv⟩ : ∃ lv, lv = cntB (fun z => decide (0 < t.U z)) y := ⟨_, rfl⟩
      rw [← hlv] at hcl
      rw [← hlv]
      have hlv' : cntB (fun z => decide (0 < t.U z)) (y + 1) = lv + if 0 < uy then 1 else 0 := by
        show cntB _ y + _ = _
        rw [← hlv, huy']
        simp only [decide_eq_true_eq]
      have HLV := hid_of hlv'
      clear hCQ huy' hlv hlv'
      by_cases hpos : 0 < uy
      · have hpos' : uy > 0 := hpos
        rw [if_pos hpos] at HLV
        go_upto_region 30 with fail
        go_quiet (fail)
        go_wp2_with fail
        refine ⟨rfl, rfl, ⟨rfl, rfl, y + 1, by omega, ?_, ?_, ⟨C, HCQ.out _⟩⟩, ?_⟩
        · rw [HLV.out]
          show Value.int .i64 _ = _
          go_num
        · show Value.int .i64 _ = _
          go_num
        · show 256 - (intOf (Value.int .i64 _)).toNat < 256 - (intOf (F5 10)).toNat
          rw [H10.out]
          simp [intOf]; omega
      · have hpos' : ¬ uy > 0 := hpos
        rw [if_neg hpos] at HLV
        go_upto_region 30 with fail
        go_quiet (fail)
        go_wp2_with fail
        refine ⟨rfl, rfl, ⟨rfl, rfl, y + 1, by omega, ?_, ?_, ⟨C, HCQ.out _⟩⟩, ?_⟩
        · rw [HLV.out]
          rfl
        · show Value.int .i64 _ = _
          go_num
        · show 256 - (intOf (Value.int .i64 _)).toNat < 256 - (intOf (F5 10)).toNat
          rw [H10.out]
          simp [intOf]; omega
    have hyn' : ¬ (y : Int) < 256 := by omega
    obtain rfl : y = 256 := by omega
    have hlive : t.live = ((cntB (fun z => decide (0 < t.U z)) 256 : Nat) : Int) := HG.out.cnt.lv
    have hls := livN_syms HG.out
    unfold livN at hls
    have lv := HM.out.ic.lv
    rw [hlive] at lv
    obtain ⟨ln, hln⟩ : ∃ ln, ln = cntB (fun z => decide (0 < t.U z)) 256 := ⟨_, rfl⟩
    rw [← hln] at lv hls
    rw [← hln]
    obtain ⟨sy, hsy⟩ : ∃ sy, sy = t.N.length := ⟨_, rfl⟩
    have hsym := fun V' (hx : W.Extends V') => syms_any (HM.out.ext hx).st
    rw [← hsy] at hls
    simp only [← hsy] at hsym
    have hsy256 : sy ≤ 256 := by have := HG.out.nl; omega
    have hsymV := hsym V hCQ.1
    have HP : Hid (Q (.returned (.bool true)) V) := by show Q _ _; rw [HQ.out]; exact ⟨rfl, hCQ.1⟩
    have l262 : 262 < CI.length := by omega
    have s1 : (ln : Int) ≤ (sy : Int) := by omega
    have s2 : (sy : Int) ≤ 256 := by omega
    clear hsym hCQ hlive hls hln hsy
    go_wp2_with fail
    refine hsymV.mono ?_
    rintro e V' ⟨rfl, rfl⟩
    dsimp only
    go_wp2_with fail
    refine hsymV.mono ?_
    rintro e V' ⟨rfl, rfl⟩
    dsimp only
    go_wp2_with fail
    all_goals first | exact HP.out | (go_ret; exact HP.out)
  have hpn' : (p : Int) < (np : Int) := by omega
  have p0 : (0 : Int) ≤ (p : Int) := by omega
  have p2 : ((p : Int)).toNat = p := by omega
  have hppl : p < t.p.preds.length := by rw [← HNP.out]; exact hpn
  obtain ⟨L, hL⟩ : ∃ L, L = rowsAt t.R p := ⟨_, rfl⟩
  have hRl : t.R[p]? = some L := by
    have hpr : p < t.R.length := by rw [HG.out.inv.2]; exact hppl
    rw [hL]; unfold rowsAt
    rw [List.getD_eq_getElem?_getD, List.getElem?_eq_getElem hpr]; rfl
  have hL512 : L.length ≤ 512 := cap_of HG.out.cap L (List.mem_of_getElem? hRl)
  have hlist := list_any (HM.out.ext hCQ.1).st hRl (by omega) (by rw [HG.out.inv.2, ← HNP.out]; omega)
  have HPP := hid_of hppl
  have HL := hid_of hL
  have hb3l := blk_lt hCQ.2.1
  have HC2 := hid_of hCQ
  clear hCQ hRl hppl hL
  go_wp2_with fail
  refine hlist.mono ?_
  rintro e V2 ⟨a, n, c, rfl, hO⟩
  dsimp only
  have hnL : n = L.length := hO.2.2
  have hn512 : n ≤ 512 := by omega
  have n1 : ¬ (n : Int) > 512 := by omega
  have n1' : ¬ (512 : Int) < (n : Int) := by omega
  have HNL := hid_of hnL
  have HI0 : Hid ((∃ C, CQ9 W b3 V2 C (uI t p 0)) ∧ RwX V2 b3 a n (rowsAt t.R p)) := by
    have hc := HC2.out
    refine ⟨⟨C, hc.1.trans hO.2.1, (hO.2.1.blk hb3l).trans hc.2.1, (free_of_heap (hO.2.1.block b3 hb3l)).trans hc.2.2.1, hc.2.2.2.congr (fun y hy => (uI_zero t p y).symm)⟩, by rw [← HL.out]; exact hO.rw', fun b o e => ?_⟩
    have h9 := (row_at hO.1 b (by rw [e]; rfl)).1
    omega
  clear hO hnL hlist HC2 hbi
  go_upto_region 15 with fail
  refine wp_loop_f 174 (c3I W bi b3 p t a n c) (fun f _ => n - (intOf (f 7)).toNat) rfl ⟨rfl, rfl, rfl, rfl, 0, by omega, rfl, HI0⟩ ?_
  clear HI0
  intro F3 V hrel
  obtain ⟨f0, f3, f5, f6, i, hi, f7, HJ⟩ := hrel
  have H7 := hid_of f7
  rw [frame174c, f0, f3, f5, f6, f7]
  clear f0 f3 f5 f6 f7
  by_cases hin2 : i < n
  rotate_left 1
  · have hin' : ¬ (i : Int) < (n : Int) := by omega
    obtain rfl : i = n := by omega
    have HJ' : Hid (∃ C, CQ9 W b3 V C (uP t (p + 1))) := by
      obtain ⟨⟨C, hc⟩, -⟩ := HJ.out
      exact ⟨C, hc.1, hc.2.1, hc.2.2.1, hc.2.2.2.congr (fun y hy => by rw [HNL.out, HL.out]; exact uI_end HPP.out y)⟩
    clear HJ
    go_wp2_with fail
    refine ⟨rfl, rfl, ⟨rfl, rfl, p + 1, by omega, ?_, HJ'⟩, ?_⟩
    · show Value.int .i64 _ = _
      go_num
    · show np - (intOf (Value.int .i64 _)).toNat < np - (intOf (F2 5)).toNat
      rw [H5.out]
      simp [intOf]; omega
  have hin2' : (i : Int) < (n : Int) := by omega
  obtain ⟨x, hx⟩ : ∃ x, L[i]? = some x := ⟨_, List.getElem?_eq_getElem (by rw [← HNL.out]; exact hin2)⟩
  have hxR : (rowsAt t.R p)[i]? = some x := by rw [← HL.out]; exact hx
  have hxm : x ∈ rowsAt t.R p := List.mem_of_getElem? hxR
  have HXR := hid_of hxR
  have HXM := hid_of hxm
  obtain ⟨ar, har⟩ : ∃ ar, ar = arP t.p p := ⟨_, rfl⟩
  obtain ⟨ha1, ha2⟩ := pI_ar HG.out.pg.pok HPP.out
  rw [← har] at ha1 ha2
  have HAR := hid_of har
  have HI0 : Hid ((∃ C, CQ9 W b3 V C (uC t p i x 0)) ∧ RwX V b3 a n (rowsAt t.R p)) := by
    obtain ⟨⟨C, hc⟩, hr⟩ := HJ.out
    exact ⟨⟨C, hc.1, hc.2.1, hc.2.2.1, hc.2.2.2.congr (fun y hy => (uC_zero t p i x y).symm)⟩, hr⟩
  obtain ⟨bd, CD, rfl, hCD, hDl, hD0, hD1, -, -⟩ := pred_at HZ8.out (pI_at HPP.out)
  rw [ha1] at hD0
  obtain ⟨bf, hbf⟩ : ∃ bf, bf = (pI t.p p).base := ⟨_, rfl⟩
  rw [← hbf] at hD1
  have HBF := hid_of hbf
  have hbdl := blk_lt hCD
  have HCD := hid_of hCD
  have ld0 : p * 3 < CD.length := by omega
  have ld1 : p * 3 + 1 < CD.length := by omega
  clear HJ hx hxR hxm har ha1 hbf hCD
  go_upto_region 18 with fail
  refine wp_loop_f 174 (c4I W bi b3 p t a n c i x ar) (fun f _ => ar - (intOf (f 8)).toNat) rfl ⟨rfl, rfl, rfl, rfl, rfl, 0, by omega, rfl, HI0⟩ ?_
  clear HI0
  intro F4 V hrel
  obtain ⟨f0, f3, f5, f6, f7, k, hk, f8, HJ⟩ := hrel
  have H8 := hid_of f8
  rw [frame174c, f0, f3, f5, f6, f7, f8]
  clear f0 f3 f5 f6 f7 f8
  obtain ⟨⟨C, hCQ⟩, hRX⟩ := HJ.out
  have hbi : blk V bi = some CI := (hCQ.1.blk hbl).trans HM.out.cell
  have hbd : blk V bd = some CD := (hCQ.1.blk hbdl).trans HCD.out
  clear HJ
  by_cases hkn : k < ar
  rotate_left 1
  · have hkn' : ¬ (k : Int) < (ar : Int) := by omega
    obtain rfl : k = ar := by omega
    have HJ' : Hid ((∃ C, CQ9 W b3 V C (uI t p (i + 1))) ∧ RwX V b3 a n (rowsAt t.R p)) := ⟨⟨C, hCQ.1, hCQ.2.1, hCQ.2.2.1, hCQ.2.2.2.congr (fun y hy => by rw [HAR.out]; exact uC_end HXR.out y)⟩, hRX⟩
    clear hCQ hRX
    go_wp2_with fail
    refine ⟨rfl, rfl, ⟨rfl, rfl, rfl, rfl, i + 1, by omega, ?_, HJ'⟩, ?_⟩
    · show Value.int .i64 _ = _
      go_num
    · show n - (intOf (Value.int .i64 _)).toNat < n - (intOf (F3 7)).toNat
      rw [H7.out]
      simp [intOf]; omega
  have hkn' : (k : Int) < (ar : Int) := by omega
  have k0 : (0 : Int) ≤ (k : Int) := by omega
  have k2 : ((k : Int)).toNat = k := by omega
  have k4 : (k : Int) < 4 := by omega
  have i0 : (0 : Int) ≤ (i : Int) := by omega
  have i2 : ((i : Int)).toNat = i := by omega
  obtain ⟨ba, CA, rfl, hCA, hAl, hilt, hseg⟩ := tup_at hRX.1 HXR.out
  have hnab : ba ≠ b3 := hRX.2 ba 0 rfl
  have hval := nth_in (j := k) hseg (nth_t x k (by omega)) (by omega)
  obtain ⟨v0, v1⟩ := ((HG.out.rd p x HXM.out).1 k (by rw [← HAR.out]; exact hkn))
  have hus := ((HG.out.used p x HXM.out).1 k (by rw [← HAR.out]; exact hkn)).2
  obtain ⟨v, hv⟩ : ∃ v : Nat, tg x k = (v : Int) := ⟨(tg x k).toNat, by omega⟩
  rw [hv, Int.toNat_natCast] at v1 hus
  rw [hv] at hval
  have hvn : (tg x k).toNat = v := by rw [hv]; exact Int.toNat_natCast _
  have hv256 : v < 256 := by have := HG.out.nl; omega
  have hvU : t.U v ≠ 0 := by rw [HG.out.cnt.us v hv256]; omega
  have huv := HM.out.ic.us v hv256
  obtain ⟨uv, huv'⟩ : ∃ uv, uv = t.U v := ⟨_, rfl⟩
  rw [← huv'] at hvU huv
  have hvUb : (uv == 0) = false := by simp [hvU]
  obtain ⟨sy, hsy⟩ : ∃ sy, sy = t.N.length := ⟨_, rfl⟩
  have hsym := syms_any (HM.out.ext (extends_drew hCQ.1)).st
  rw [← hsy] at hsym v1
  have v2 : ¬ (v : Int) < 0 := by omega
  have v2b : decide ((v : Int) < 0) = false := decide_eq_false v2
  have v3 : ¬ (v : Int) ≥ (sy : Int) := by omega
  have v3b : decide ((v : Int) ≥ (sy : Int)) = false := decide_eq_false v3
  have v3c : decide ((sy : Int) ≤ (v : Int)) = false := decide_eq_false v3
  have v4 : (0 : Int) ≤ (v : Int) := by omega
  have v5 : ((v : Int)).toNat = v := by omega
  have v6 : (v : Int) < 256 := by omega
  have lA : i * 4 + k < CA.length := by omega
  have lv6 : 6 + v < CI.length := by omega
  have hS0 : blk V.drew ba = some CA ∧ blk V.drew bi = some CI := ⟨hCA, hbi⟩
  have HCQ := hid_of hCQ
  have HRX := hid_of hRX
  have HVN := hid_of hvn
  have hc3 := hCQ.2.2.2.at_ v hv256
  have hub := uC_bd HG.out HPP.out HXR.out (c := k) (by rw [← HAR.out]; omega) v
  obtain ⟨uc, huc⟩ : ∃ uc, uc = uC t p i x k v := ⟨_, rfl⟩
  rw [← huc] at hc3 hub
  have HUC := hid_of huc
  have hb3V := hCQ.2.1
  have hf3V := hCQ.2.2.1
  have hl3 := hCQ.2.2.2.len
  have lv3 : v < C.length := by omega
  clear hCQ hRX hseg hv hvn hus v0 huv' hsy huc
  go_upto_region 20 with fail
  refine wp_region_held_drew (S := fun W' => blk W' ba = some CA ∧ blk W' bi = some CI) (by kernel_rfl) hS0 (fun hHeld => ?_)
  refine wpAnyH_take (i := 0) (oi := ⟨_, _, _, _, _, _⟩) (v := ?_) rfl (by kernel_rfl) (by kernel_rfl) (by kernel_rfl) (fun _ _ _ h => h) (Or.inl ⟨by rfl, ?_⟩) (by assumption) ?_
  rotate_left 1
  · intro W' hSw
    obtain ⟨hS1, hS2⟩ := hSw
    go_simp
    try with_reducible rfl
  try simp only [Act.put, List.setIfInBounds_toArray, List.set_cons_zero, List.set_cons_succ]
  refine wpAnyH_take (i := 1) (oi := ⟨_, _, _, _, _, _⟩) (v := ?_) rfl (by kernel_rfl) (by kernel_rfl) (by kernel_rfl) (fun _ _ _ h => h) (Or.inl ⟨by rfl, ?_⟩) (by assumption) ?_
  rotate_left 1
  · intro W' hSw
    obtain ⟨hS1, hS2⟩ := hSw
    go_simp
    try with_reducible rfl
  try simp only [Act.put, List.setIfInBounds_toArray, List.set_cons_zero, List.set_cons_succ]
  refine wpAnyH_take (i := 2) (oi := ⟨_, _, _, _, _, _⟩) (v := ?_) rfl (by kernel_rfl) (by kernel_rfl) (by kernel_rfl) (fun _ _ _ h => h) (Or.inl ⟨by rfl, ?_⟩) (by assumption) ?_
  rotate_left 1
  · intro W' hSw
    obtain ⟨hS1, hS2⟩ := hSw
    go_simp
    try with_reducible rfl
  try simp only [Act.put, List.setIfInBounds_toArray, List.set_cons_zero, List.set_cons_succ]
  refine wpAnyH_take (i := 3) (oi := ⟨_, _, _, _, _, _⟩) (v := ?_) rfl (by kernel_rfl) (by kernel_rfl) (by kernel_rfl) (fun _ _ _ h => h) (Or.inl ⟨by rfl, ?_⟩) (by assumption) ?_
  rotate_left 1
  · intro W' hSw
    obtain ⟨hS1, hS2⟩ := hSw
    go_simp
    try with_reducible rfl
  try simp only [Act.put, List.setIfInBounds_toArray, List.set_cons_zero, List.set_cons_succ]
  refine wpAnyH_take (i := 4) (oi := ⟨_, _, _, _, _, _⟩) (v := ?_) rfl (by kernel_rfl) (by kernel_rfl) (by kernel_rfl) (fun _ _ _ h => h) (Or.inl ⟨by rfl, ?_⟩) (by assumption) ?_
  rotate_left 1
  · intro W' hSw
    obtain ⟨hS1, hS2⟩ := hSw
    go_simp
    try with_reducible rfl
  try simp only [Act.put, List.setIfInBounds_toArray, List.set_cons_zero, List.set_cons_succ]
  refine wpAnyH_take (i := 5) (oi := ⟨_, _, _, _, _, _⟩) (v := ?_) rfl (by kernel_rfl) (by kernel_rfl) (by kernel_rfl) (fun _ _ _ h => h) (Or.inl ⟨by rfl, ?_⟩) (by assumption) ?_
  rotate_left 1
  · intro W' hSw
    obtain ⟨hS1, hS2⟩ := hSw
    go_simp
    try with_reducible rfl
  try simp only [Act.put, List.setIfInBounds_toArray, List.set_cons_zero, List.set_cons_succ]
  refine wpAnyH_take (i := 6) (oi := ⟨_, _, _, _, _, _⟩) (v := ?_) rfl (by kernel_rfl) (by kernel_rfl) (by kernel_rfl) (fun _ _ _ h => h) (Or.inl ⟨by rfl, ?_⟩) (by assumption) ?_
  rotate_left 1
  · intro W' hSw
    obtain ⟨hS1, hS2⟩ := hSw
    go_simp
    try with_reducible rfl
  try simp only [Act.put, List.setIfInBounds_toArray, List.set_cons_zero, List.set_cons_succ]
  refine wpAnyH_take (i := 7) (oi := ⟨_, _, _, _, _, _⟩) (v := ?_) rfl (by kernel_rfl) (by kernel_rfl) (by kernel_rfl) (fun _ _ _ h => h) (Or.inl ⟨by rfl, ?_⟩) (by assumption) ?_
  rotate_left 1
  · intro W' hSw
    obtain ⟨hS1, hS2⟩ := hSw
    go_simp
    try with_reducible rfl
  try simp only [Act.put, List.setIfInBounds_toArray, List.set_cons_zero, List.set_cons_succ]
  refine wpAnyH_take (i := 8) (oi := ⟨_, _, _, _, _, _⟩) (v := ?_) rfl (by kernel_rfl) (by kernel_rfl) (by kernel_rfl) (fun _ _ _ h => h) (Or.inl ⟨by rfl, ?_⟩) (by assumption) ?_
  rotate_left 1
  · intro W' hSw
    obtain ⟨hS1, hS2⟩ := hSw
    go_simp
    try with_reducible rfl
  try simp only [Act.put, List.setIfInBounds_toArray, List.set_cons_zero, List.set_cons_succ]
  refine wpAnyH_take (i := 9) (oi := ⟨_, _, _, _, _, _⟩) (v := ?_) rfl (by kernel_rfl) (by kernel_rfl) (by kernel_rfl) (fun _ _ _ h => h) (Or.inl ⟨by rfl, ?_⟩) (by assumption) ?_
  rotate_left 1
  · intro W' hSw
    obtain ⟨hS1, hS2⟩ := hSw
    go_simp
    try with_reducible rfl
  try simp only [Act.put, List.setIfInBounds_toArray, List.set_cons_zero, List.set_cons_succ]
  refine wpAnyH_take (i := 10) (oi := ⟨_, _, _, _, _, _⟩) (v := ?_) rfl (by kernel_rfl) (by kernel_rfl) (by kernel_rfl) (fun _ _ _ h => h) (Or.inl ⟨by rfl, ?_⟩) (by assumption) ?_
  rotate_left 1
  · intro W' hSw
    obtain ⟨hS1, hS2⟩ := hSw
    go_simp
    try with_reducible rfl
  try simp only [Act.put, List.setIfInBounds_toArray, List.set_cons_zero, List.set_cons_succ]
  refine wpAnyH_take (i := 11) (oi := ⟨_, _, _, _, _, _⟩) (v := ?_) rfl (by kernel_rfl) (by kernel_rfl) (by kernel_rfl) (fun _ _ _ h => h) (Or.inl ⟨by rfl, ?_⟩) (by assumption) ?_
  rotate_left 1
  · intro W' hSw
    obtain ⟨hS1, hS2⟩ := hSw
    go_simp
    try with_reducible rfl
  try simp only [Act.put, List.setIfInBounds_toArray, List.set_cons_zero, List.set_cons_succ]
  refine wpAnyH_take (i := 12) (oi := ⟨_, _, _, _, _, _⟩) (v := ?_) rfl (by kernel_rfl) (by kernel_rfl) (by kernel_rfl) (fun _ _ _ h => h) (Or.inl ⟨by rfl, ?_⟩) (by assumption) ?_
  rotate_left 1
  · intro W' hSw
    obtain ⟨hS1, hS2⟩ := hSw
    go_simp
    try with_reducible rfl
  try simp only [Act.put, List.setIfInBounds_toArray, List.set_cons_zero, List.set_cons_succ]
  refine wpAnyH_take (i := 13) (oi := ⟨_, _, _, _, _, _⟩) (v := ?_) rfl (by kernel_rfl) (by kernel_rfl) (by kernel_rfl) (fun _ _ _ h => h) (Or.inl ⟨by rfl, ?_⟩) (by assumption) ?_
  rotate_left 1
  · intro W' hSw
    obtain ⟨hS1, hS2⟩ := hSw
    go_simp
    try with_reducible rfl
  try simp only [Act.put, List.setIfInBounds_toArray, List.set_cons_zero, List.set_cons_succ]
  refine wpAnyH_take (i := 14) (oi := ⟨_, _, _, _, _, _⟩) (v := ?_) rfl (by kernel_rfl) (by kernel_rfl) (by kernel_rfl) (fun _ _ _ h => h) (Or.inl ⟨by rfl, ?_⟩) (by assumption) ?_
  rotate_left 1
  · intro W' hSw
    obtain ⟨hS1, hS2⟩ := hSw
    go_simp
    try with_reducible rfl
  try simp only [Act.put, List.setIfInBounds_toArray, List.set_cons_zero, List.set_cons_succ]
  refine wpAnyH_take (i := 15) (oi := ⟨_, _, _, _, _, _⟩) (v := ?_) rfl (by kernel_rfl) (by kernel_rfl) (by kernel_rfl) (fun _ _ _ h => h) (Or.inl ⟨by rfl, ?_⟩) (by assumption) ?_
  rotate_left 1
  · intro W' hSw
    obtain ⟨hS1, hS2⟩ := hSw
    go_simp
    try with_reducible rfl
  try simp only [Act.put, List.setIfInBounds_toArray, List.set_cons_zero, List.set_cons_succ]
  refine wpAnyH_take (i := 16) (oi := ⟨_, _, _, _, _, _⟩) (v := ?_) rfl (by kernel_rfl) (by kernel_rfl) (by kernel_rfl) (fun _ _ _ h => h) (Or.inl ⟨by rfl, ?_⟩) (by assumption) ?_
  rotate_left 1
  · intro W' hSw
    obtain ⟨hS1, hS2⟩ := hSw
    go_simp
    try with_reducible rfl
  try simp only [Act.put, List.setIfInBounds_toArray, List.set_cons_zero, List.set_cons_succ]
  refine wpAnyH_take (i := 17) (oi := ⟨_, _, _, _, _, _⟩) (v := ?_) rfl (by kernel_rfl) (by kernel_rfl) (by kernel_rfl) (fun _ _ _ h => h) (Or.inl ⟨by rfl, ?_⟩) (by assumption) ?_
  rotate_left 1
  · intro W' hSw
    obtain ⟨hS1, hS2⟩ := hSw
    go_simp
    try with_reducible rfl
  try simp only [Act.put, List.setIfInBounds_toArray, List.set_cons_zero, List.set_cons_succ]
  refine wpAnyH_ready (rs := [18]) (by kernel_rfl) (by simp) ?_
  refine AllReadyH.cons (o := ⟨_, _, _, _, _, _⟩) rfl (fun K' hK => ?_) AllReadyH.nil
  go_simp
  refine hsym.mono ?_
  rintro e V5 ⟨rfl, rfl⟩
  dsimp only
  refine hK.out _ _ hS0 (fun hHeld => ?_)
  clear hK K'
  try simp only [Act.put, List.setIfInBounds_toArray, List.set_cons_zero, List.set_cons_succ]
  refine wpAnyH_take (i := 19) (oi := ⟨_, _, _, _, _, _⟩) (v := ?_) rfl (by kernel_rfl) (by kernel_rfl) (by kernel_rfl) (fun _ _ _ h => h) (Or.inl ⟨by rfl, ?_⟩) (by assumption) ?_
  rotate_left 1
  · intro W' hSw
    obtain ⟨hS1, hS2⟩ := hSw
    go_simp
    try with_reducible rfl
  try simp only [Act.put, List.setIfInBounds_toArray, List.set_cons_zero, List.set_cons_succ]
  refine wpAnyH_take (i := 20) (oi := ⟨_, _, _, _, _, _⟩) (v := ?_) rfl (by kernel_rfl) (by kernel_rfl) (by kernel_rfl) (fun _ _ _ h => h) (Or.inl ⟨by rfl, ?_⟩) (by assumption) ?_
  rotate_left 1
  · intro W' hSw
    obtain ⟨hS1, hS2⟩ := hSw
    go_simp
    try with_reducible rfl
  try simp only [Act.put, List.setIfInBounds_toArray, List.set_cons_zero, List.set_cons_succ]
  refine wpAnyH_done (by kernel_rfl) ?_ _
  clear hHeld hS0 hsym
  cases bf with
  | true =>
    go_upto_region 22 with fail
    refine wp_world (fun V' => (CQ9 W b3 V' C (uC t p i x k) ∧ RwX V' b3 (some ⟨ba, 0, none⟩) n (rowsAt t.R p)) ∧ blk V' bi = some CI ∧ blk V' bd = some CD ∧ blk V' ba = some CA) ⟨⟨⟨extends_drew HCQ.out.1, HCQ.out.2.1, HCQ.out.2.2.1, HCQ.out.2.2.2⟩, HRX.out⟩, hbi, hbd, hCA⟩ ?_
    rintro V2 ⟨⟨hC2, hR2⟩, hbi2, hbd2, hCA2⟩
    have hb2 := hC2.2.1
    have hf2 := hC2.2.2.1
    have hst := uC_step (t := t) (p := p) (i := i) (x := x) (c := k) HBF.out.symm HVN.out
    have HJ' : Hid ((∃ D, CQ9 W b3 (put V2 b3 (splice C v [.int .i64 (uc + 1)])) D (uC t p i x (k + 1))) ∧ RwX (put V2 b3 (splice C v [.int .i64 (uc + 1)])) b3 (some ⟨ba, 0, none⟩) n (rowsAt t.R p)) := ⟨⟨_, hC2.put hW3 hv256 (x := uc + 1) (by rw [HUC.out]; exact hst.1) hst.2⟩, hR2.put _⟩
    clear hC2 hR2 hst hb3V hf3V hCA hbi hbd
    go_wp2_with fail
    refine ⟨rfl, rfl, ⟨rfl, rfl, rfl, rfl, rfl, k + 1, by omega, ?_, HJ'⟩, ?_⟩
    · show Value.int .i64 _ = _
      go_num
    · show ar - (intOf (Value.int .i64 _)).toNat < ar - (intOf (F4 8)).toNat
      rw [H8.out]
      simp [intOf]; omega
  | false =>
    have HJ' : Hid (∀ n', (∃ C, CQ9 W b3 (V.drewN n') C (uC t p i x (k + 1))) ∧ RwX (V.drewN n') b3 (some ⟨ba, 0, none⟩) n (rowsAt t.R p)) := fun n' => ⟨⟨C, extends_drewN HCQ.out.1 n', HCQ.out.2.1, HCQ.out.2.2.1, HCQ.out.2.2.2.congr (fun y hy => (uC_der HBF.out.symm y).symm)⟩, HRX.out⟩
    go_upto_region 24 with fail
    go_quiet (fail)
    go_wp2_with fail
    refine ⟨rfl, rfl, ⟨rfl, rfl, rfl, rfl, rfl, k + 1, by omega, ?_, HJ'.out _⟩, ?_⟩
    · show Value.int .i64 _ = _
      go_num
    · show ar - (intOf (Value.int .i64 _)).toNat < ar - (intOf (F4 8)).toNat
      rw [H8.out]
      simp [intOf]; omega
end Go.Proofs.Qxb6500787a
