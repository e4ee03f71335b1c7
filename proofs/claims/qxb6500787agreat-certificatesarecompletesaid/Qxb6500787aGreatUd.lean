
import Derived.Test.Qxb6500787aGreatUc
import Derived.StillTailTactics
import Derived.Deep.QuietTactic
import Derived.BigQuiet
import Derived.Deep.RegionHeld
import Derived.Deep.CutRange
import Derived.Laws.ResultCell
import Derived.Laws.Rows
import Derived.DeepKeys
import Derived.DataBytes
import Derived.Laws.StructEq
import Derived.Laws.AppendOwn
import Derived.Laws.MakeOwn
import Derived.Lib.AppendStr
set_option linter.unusedSimpArgs false
set_option linter.unusedVariables false
namespace Go.Proofs.Qxb6500787aGreat
open Go.RowKit Go.Blk
attribute [local go_sem ↓] execOp_load execOp_store execOp_alloc
attribute [local go_sem] Tryz.ld26 Tryz.st26 Tryz.ld27 Tryz.st27 Tryz.ld28 Tryz.st28 Tryz.ld3 Tryz.st3 Tryz.ld29 Tryz.st29 Tryz.ld44 Tryz.st44 Tryz.ld4 Tryz.st4 Tryz.ld50 Tryz.st50 Tryz.ld32 Tryz.st32 Tryz.ld49 Tryz.st49 Tryz.ld68 Tryz.st68 Tryz.ld9 Tryz.st9 Tryz.ld40 Tryz.st40 Tryz.ld138 Tryz.st138 Tryz.ld139 Tryz.st139 Tryz.ld146 Tryz.st146 Tryz.ld183 Tryz.st183 Tryz.ld184 Tryz.st184 Tryz.ld192 Tryz.st192 Tryz.ld195 Tryz.st195 Tryz.ld217 Tryz.st217 Tryz.ld159 Tryz.st159 Tryz.ld142 Tryz.st142 Tryz.ld2 Tryz.st2 Tryz.ld5 Tryz.st5 Tryz.ld12 Tryz.st12 Tryz.ld21 Tryz.st21 Tryz.ld22 Tryz.st22 Tryz.ld24 Tryz.st24 Tryz.ld58 Tryz.st58 Tryz.ld97 Tryz.st97 Tryz.ld101 Tryz.st101 Tryz.ld116 Tryz.st116 Tryz.ld121 Tryz.st121 Tryz.ld135 Tryz.st135 Tryz.ld136 Tryz.st136 Tryz.ld143 Tryz.st143 Tryz.ld148 Tryz.st148 Tryz.ld154 Tryz.st154 Tryz.ld173 Tryz.st173 Tryz.ld187 Tryz.st187 Tryz.ld222 Tryz.st222 Tryz.ld241 Tryz.st241 Tryz.ld248 Tryz.st248 Tryz.ld268 Tryz.st268 Tryz.ld272 Tryz.st272 Tryz.ld153 Tryz.st153 Tryz.ld255 Tryz.st255 Tryz.ld256 Tryz.st256 Tryz.ld129 Tryz.st129 Tryz.ld152 Tryz.st152 Tryz.ld31 Tryz.st31 Tryz.ld46 Tryz.st46 Tryz.ld52 Tryz.st52 Tryz.ld54 Tryz.st54 Tryz.ld60 Tryz.st60 Tryz.ld70 Tryz.st70 Tryz.ld74 Tryz.st74 Tryz.ld93 Tryz.st93 Tryz.ld141 Tryz.st141 Tryz.ld151 Tryz.st151 Tryz.ld170 Tryz.st170 Tryz.ld186 Tryz.st186 Tryz.ld189 Tryz.st189 Tryz.ld194 Tryz.st194 Tryz.ld197 Tryz.st197 Tryz.ld219 Tryz.st219 Tryz.ld224 Tryz.st224 Tryz.ld230 Tryz.st230 Tryz.ld235 Tryz.st235 Tryz.ld243 Tryz.st243 Tryz.ld247 Tryz.st247 Tryz.ld252 Tryz.st252 Tryz.ld258 Tryz.st258 Tryz.al153 Tryz.al255 Tryz.al256 Tryz.al129 Tryz.al152 Tryz.al31 Tryz.al46 Tryz.al52 Tryz.al54 Tryz.al60 Tryz.al70 Tryz.al74 Tryz.al93 Tryz.al141 Tryz.al151 Tryz.al170 Tryz.al186 Tryz.al189 Tryz.al194 Tryz.al197 Tryz.al219 Tryz.al224 Tryz.al230 Tryz.al235 Tryz.al243 Tryz.al247 Tryz.al252 Tryz.al258
attribute [local go_sem] Request.length_enc Request.ok_enc Request.all_get Request.all_set Request.kind_get Request.kind_set Request.blob_get Request.blob_set Request.items_get Request.items_set Request.pred_get Request.pred_set Request.slots_get Request.slots_set Trace.length_enc Trace.ok_enc Trace.all_get Trace.all_set Trace.op_get Trace.op_set Trace.calls_get Trace.calls_set Item.length_enc Item.ok_enc Item.all_get Item.all_set Item.del_get Item.del_set Item.pred_get Item.pred_set Item.args_get Item.args_set Reply.length_enc Reply.ok_enc Reply.all_get Reply.all_set Reply.code_get Reply.code_set Reply.kind_get Reply.kind_set Reply.index_get Reply.index_set Reply.yes_get Reply.yes_set Reply.preds_get Reply.preds_set Reply.rules_get Reply.rules_set Reply.arity_get Reply.arity_set Reply.rows_get Reply.rows_set Reply.fact_get Reply.fact_set Reply.fact_del_get Reply.fact_del_set Reply.fact_pred_get Reply.fact_pred_set Reply.fact_args_get Reply.fact_args_set GEntry.length_enc GEntry.ok_enc GEntry.all_get GEntry.all_set GEntry.seq_get GEntry.seq_set GEntry.kind_get GEntry.kind_set GEntry.code_get GEntry.code_set GOp.length_enc GOp.ok_enc GOp.all_get GOp.all_set GOp.kind_get GOp.kind_set GOp.raw_get GOp.raw_set Reader.length_enc Reader.ok_enc Reader.all_get Reader.all_set Reader.buf_get Reader.buf_set Reader.at__get Reader.at__set Slot.length_enc Slot.ok_enc Slot.all_get Slot.all_set Slot.bound_get Slot.bound_set Slot.name_get Slot.name_set Session.length_enc Session.ok_enc Session.all_get Session.all_set Session.svc_get Session.svc_set Session.buf_get Session.buf_set Session.closed_get Session.closed_set GProgram.length_enc GProgram.ok_enc GProgram.all_get GProgram.all_set GProgram.pool_get GProgram.pool_set GProgram.preds_get GProgram.preds_set GProgram.rules_get GProgram.rules_set GProgram.strata_get GProgram.strata_set PredInfo.length_enc PredInfo.ok_enc PredInfo.all_get PredInfo.all_set PredInfo.arity_get PredInfo.arity_set PredInfo.base_get PredInfo.base_set PredInfo.stratum_get PredInfo.stratum_set Change.length_enc Change.ok_enc Change.all_get Change.all_set Change.del_get Change.del_set Change.pred_get Change.pred_set Change.t_get Change.t_set Store.length_enc Store.ok_enc Store.all_get Store.all_set Store.names_get Store.names_set Store.arity_get Store.arity_set Store.rows_get Store.rows_set Src.length_enc Src.ok_enc Src.all_get Src.all_set Src.b_get Src.b_set Src.at__get Src.at__set Atom.length_enc Atom.ok_enc Atom.all_get Atom.all_set Atom.pred_get Atom.pred_set Atom.args_get Atom.args_set GRule.length_enc GRule.ok_enc GRule.all_get GRule.all_set GRule.head_get GRule.head_set GRule.body_get GRule.body_set GRule.head_pred_get GRule.head_pred_set GRule.head_args_get GRule.head_args_set Cert.length_enc Cert.ok_enc Cert.all_get Cert.all_set Cert.names_get Cert.names_set Cert.nodes_get Cert.nodes_set Fact.length_enc Fact.ok_enc Fact.all_get Fact.all_set Fact.pred_get Fact.pred_set Fact.t_get Fact.t_set Literal.length_enc Literal.ok_enc Literal.all_get Literal.all_set Literal.neg_get Literal.neg_set Literal.atom_get Literal.atom_set Literal.atom_pred_get Literal.atom_pred_set Literal.atom_args_get Literal.atom_args_set Engine.length_enc Engine.ok_enc Engine.all_get Engine.all_set Engine.prog_get Engine.prog_set Engine.st_get Engine.st_set SrcCertm.length_enc SrcCertm.ok_enc SrcCertm.all_get SrcCertm.all_set SrcCertm.b_get SrcCertm.b_set SrcCertm.at__get SrcCertm.at__set GNode.length_enc GNode.ok_enc GNode.all_get GNode.all_set GNode.rule_get GNode.rule_set GNode.pred_get GNode.pred_set GNode.vals_get GNode.vals_set GNode.refs_get GNode.refs_set Term.length_enc Term.ok_enc Term.all_get Term.all_set Term.var_get Term.var_set Term.n_get Term.n_set Env.length_enc Env.ok_enc Env.all_get Env.all_set Env.val_get Env.val_set Env.set_get Env.set_set
attribute [local go_sem] size_put size_ext blk_put free_put blk_alloc free_alloc blk_drew free_drew blk_ext free_ext lookOr_some putOr_some segAt_some cellAt_some storeIn_some put_put put_alloc_new length_arr ok_arr_u8 ok_arr_u32 ok_arr_u64 ok_arr_i64 ok_arr_sl cellsV_agg cellsV_int cellsV_bool cellsV_string cellsV_pointer cellsV_slice cellsV_sl ok_int ok_bool ok_string ok_pointer ok_slice ok_sl toList_arr seg_arr set_arr nth_splice nth_splice0 seg_splice seg_splice0 splice_splice splice_splice0 length_splice_if
attribute [local go_sem ↓] execOp_box
attribute [local go_sem] box_run nth_arr_u8 put_arr_u8 blk_drewN free_drewN put_drewN blk_raw free_raw
/-- The constant pool. -/
def goP : Nat → List (List UInt8) → List UInt8 → Int × List (List UInt8) × List UInt8
  | 0, acc, ys => (0, acc, ys)
  | _ + 1, _, [] => (19, [], [])
  | m + 1, acc, x :: r => if 64 < x.toNat then (21, [], []) else if r.length < x.toNat then (19, [], []) else if r.take x.toNat ∈ acc then (22, [], []) else goP m (acc ++ [r.take x.toNat]) (r.drop x.toNat)
theorem goP_cons (m : Nat) (acc : List (List UInt8)) (x : UInt8) (r : List UInt8) : goP (m + 1) acc (x :: r) = if 64 < x.toNat then (21, [], []) else if r.length < x.toNat then (19, [], []) else if r.take x.toNat ∈ acc then (22, [], []) else goP m (acc ++ [r.take x.toNat]) (r.drop x.toNat) := rfl
def poolD : List UInt8 → Int × List (List UInt8) × List UInt8
  | h :: l :: r => goP (h.toNat * 256 + l.toNat) [] r
  | _ => (19, [], [])
def PoPost (w0 : World) (br : Nat) (a : Option Addr) (n c : Nat) (xs : List UInt8) (W : World) (q : Int × List (List UInt8) × List UInt8) (e : Ending) (W' : World) : Prop := ∃ a' n' c', e = .returned (.tuple #[.slice a' n' c', .int .i64 q.1]) ∧ (q.1 = 0 → Rw encS 1 (newc W.heap.size W') a' n' q.2.1) ∧ RPost w0 br a n c xs W q.1 q.2.2 W'
def poI (w0 W : World) (br : Nat) (a : Option Addr) (n c : Nat) (xs : List UInt8) (h l : Nat) (tot : Int × List (List UInt8) × List UInt8) (f : Nat → Value) (V : World) : Prop := f 0 = .pointer (some ⟨br, 0, none⟩) ∧ f 5 = .int .i64 (h : Nat) ∧ f 7 = .int .i64 (l : Nat) ∧ ∃ (i : Nat) (a' : Option Addr) (c' : Nat), i ≤ h * 256 + l ∧ f 4 = .slice a' i c' ∧ f 9 = .int .i64 (i : Nat) ∧ Hid (∃ O L p, Bld br W O V ∧ RowL W.heap.size O (.a 6 1) V 9 1 (.slice a' i c') L.length (L.flatMap encS) ∧ Rdr w0 br a n c p V ∧ goP (h * 256 + l - i) L (xs.drop p) = tot)
def poJ (V0 : World) (br : Nat) (h l i : Nat) (a' : Option Addr) (c' : Nat) (nm : List UInt8) (L : List (List UInt8)) (f : Nat → Value) (V : World) : Prop := f 0 = .pointer (some ⟨br, 0, none⟩) ∧ f 4 = .slice a' i c' ∧ f 5 = .int .i64 (h : Nat) ∧ f 7 = .int .i64 (l : Nat) ∧ f 9 = .int .i64 (i : Nat) ∧ f 12 = .string ⟨nm.toArray⟩ ∧ Hid (∃ W', W' = V0 ∧ V = W') ∧ ∃ k : Nat, k ≤ i ∧ f 13 = .int .i64 (k : Nat) ∧ Hid (∀ j x, j < k → L[j]? = some x → x ≠ nm)
attribute [local go_sem ↓] execOp_bslice execOp_slice execOp_convert
attribute [local go_sem] bslice50 rd_len rd0 rd1 rd_set1
set_option maxRecDepth 100000 in
theorem frame100p (f : Nat → Value) : frameN 100 f = #[f 0, f 1, f 2, f 3, f 4, f 5, f 6, f 7, f 8, f 9, f 10, f 11, f 12, f 13, f 14, f 15, f 16, f 17, f 18, f 19, f 20, f 21, f 22, f 23, f 24, f 25, f 26, f 27, f 28, f 29, f 30, f 31, f 32, f 33, f 34, f 35, f 36, f 37, f 38, f 39, f 40, f 41, f 42, f 43, f 44, f 45, f 46, f 47, f 48, f 49, f 50, f 51, f 52, f 53, f 54, f 55, f 56, f 57, f 58, f 59, f 60, f 61, f 62, f 63, f 64, f 65, f 66, f 67, f 68, f 69, f 70, f 71, f 72, f 73, f 74, f 75, f 76, f 77, f 78, f 79, f 80, f 81, f 82, f 83, f 84, f 85, f 86, f 87, f 88, f 89, f 90, f 91, f 92, f 93, f 94, f 95, f 96, f 97, f 98, f 99] := by kernel_rfl
set_option maxRecDepth 40000 in
set_option maxHeartbeats 4000000 in
theorem pool_any (w0 W : World) (br : Nat) (a : Option Addr) (n c p : Nat) (hR : Rdr w0 br a n c p W) (hn : n ≤ 65536) (hnc : n ≤ c) (hc : c ≤ 9223372036854775807) (xs : List UInt8) (hX : Bs w0 a n xs) : Calls Tryz.prog 66 #[.pointer (some ⟨br, 0, none⟩)] W (PoPost w0 br a n c xs W (poolD (xs.drop p))) := by
  obtain ⟨Q, hQ⟩ : ∃ Q, Q = PoPost w0 br a n c xs W (poolD (xs.drop p)) := ⟨_, rfl⟩
  rw [← hQ]
  have HQ := hid_of hQ
  have HX := hid_of hX
  have hbr := blk_lt hR.1
  have hcall := nxt_any w0 W br a n c p hR hn hnc hc xs hX
  have hxl := hX.1
  have HXL := hid_of hxl
  have HBAD0 : Hid (∀ (O : Own) (V : World) (p' : Nat), Bld br W O V → Rdr w0 br a n c p' V → ∀ cd, cd ≠ 0 → cd = (poolD (xs.drop p)).1 → Q (.returned (.tuple #[.slice none 0 0, .int .i64 cd])) V) := by
    intro O V p' h1 h2 cd h3 h4
    rw [HQ.out, h4]
    exact ⟨none, 0, 0, rfl, fun e => absurd (h4.trans e) h3, p', h2, h1.side, fun e => absurd (h4.trans e) h3⟩
  clear hR hX hQ hxl
  go_enter Tryz.func66, Tryz.ntmps66
  go_wp2_with fail
  refine hcall.mono ?_
  rintro e V1 ⟨k1, ok1, p1, rfl, hN1, hR1, hS1⟩
  dsimp only
  have hF1 := (Bld.refl hbr).call hS1
  have hB1 := (Bld.refl hbr).step hF1 (fun e => by have := (Lab.a.inj e).2; omega)
  have hcall2 := nxt_any w0 V1 br a n c p1 hR1 hn hnc hc xs HX.out
  have HB1 := hid_of hB1
  have HN1 := hid_of hN1
  have hk1 := hN1.lt
  clear hF1 hB1 hN1 hR1 hS1 hcall
  go_wp2_with fail
  refine hcall2.mono ?_
  rintro e V2 ⟨k2, ok2, p2, rfl, hN2, hR2, hS2⟩
  dsimp only
  have hF2 := HB1.out.call hS2
  have hB2 := HB1.out.step hF2 (fun e => by have := (Lab.a.inj e).2; omega)
  have hk2 := hN2.lt
  have HBAD : Hid (ok1 = false ∨ ok2 = false → poolD (xs.drop p) = (19, [], [])) := by
    intro h
    rcases HN1.out.cases with ⟨e1, x, hx, hd⟩ | ⟨e1, hd, hp⟩
    · rcases hN2.cases with ⟨e2, y, hy, hd2⟩ | ⟨e2, hd2, hp2⟩
      · rcases h with h | h
        · rw [e1] at h; cases h
        · rw [e2] at h; cases h
      · rw [hd, hd2]; rfl
    · rw [hd]; rfl
  have HGOOD : Hid (ok1 = true → ok2 = true → poolD (xs.drop p) = goP (k1 * 256 + k2) [] (xs.drop p2)) := by
    intro h1 h2
    rcases HN1.out.cases with ⟨e1, x, hx, hd⟩ | ⟨e1, hd, hp⟩
    · rcases hN2.cases with ⟨e2, y, hy, hd2⟩ | ⟨e2, hd2, hp2⟩
      · rw [hd, hd2, hx, hy]; rfl
      · rw [e2] at h2; cases h2
    · rw [e1] at h1; cases h1
  have HB2 := hid_of hB2
  have HR2 := hid_of hR2
  clear hF2 hB2 hN2 hR2 hS2 hcall2 HN1 HB1
  have hcases : (ok1 = false ∨ ok2 = false) ∨ (ok1 = true ∧ ok2 = true) := by cases ok1 <;> cases ok2 <;> simp
  rcases hcases with hbad | ⟨rfl, rfl⟩
  · have HP : Hid (Q (.returned (.tuple #[.slice none 0 0, .int .i64 19])) V2) := HBAD0.out _ V2 p2 HB2.out HR2.out 19 (by decide) (by rw [HBAD.out hbad])
    have HBB := hid_of hbad
    clear HBAD HGOOD HBAD0 hbad
    cases ok1 with
    | false =>
      go_wp2_with fail
      try go_ret2
      exact HP.out
    | true =>
      have e2 : ok2 = false := by
        rcases HBB.out with h | h
        · cases h
        · exact h
      subst e2
      go_wp2_with fail
      try go_ret2
      exact HP.out
  obtain ⟨tot, htot⟩ : ∃ tot, tot = goP (k1 * 256 + k2) [] (xs.drop p2) := ⟨_, rfl⟩
  have HG : Hid (poolD (xs.drop p) = tot) := by rw [htot]; exact HGOOD.out rfl rfl
  have HI0 : Hid (∃ O L p, Bld br W O V2 ∧ RowL W.heap.size O (.a 6 1) V2 9 1 (.slice none 0 0) L.length (L.flatMap encS) ∧ Rdr w0 br a n c p V2 ∧ goP (k1 * 256 + k2 - 0) L (xs.drop p) = tot) := ⟨_, [], p2, HB2.out, RowL.nil _ _ _ _ _ _, HR2.out, htot.symm⟩
  clear HBAD HGOOD htot HB2 HR2
  go_upto_region 7 with fail
  refine wp_loop_f 100 (poI w0 W br a n c xs k1 k2 tot) (fun f _ => k1 * 256 + k2 - (intOf (f 9)).toNat) rfl ⟨rfl, rfl, rfl, 0, none, 0, by omega, rfl, rfl, HI0⟩ ?_
  clear HI0
  intro F V hrel
  obtain ⟨f0, f5, f7, i, a', c', hi, f4, f9, HI⟩ := hrel
  have H9 := hid_of f9
  rw [frame100p, f0, f4, f5, f7, f9]
  clear f0 f4 f5 f7 f9
  obtain ⟨O5, L, p5, hB, hrow, hRd, hgo⟩ := HI.out
  have hLi : L.length = i := (hrow.rw encS_len).1.1
  have HB := hid_of hB
  have HRW := hid_of hrow
  have HRD := hid_of hRd
  have HLI := hid_of hLi
  have hi65 : i ≤ 65535 := by omega
  by_cases hin : i < k1 * 256 + k2
  rotate_left 1
  · have hin' : ¬ (i : Int) < (k1 : Int) * 256 + (k2 : Int) := by omega
    have HP : Hid (Q (.returned (.tuple #[.slice a' i c', .int .i64 0])) V) := by
      have e1 : tot = (0, L, xs.drop p5) := by
        rw [← hgo, show k1 * 256 + k2 - i = 0 by omega]; rfl
      have hg := HG.out
      rw [e1] at hg
      show Q _ _
      rw [HQ.out, hg]
      exact ⟨a', i, c', rfl, fun _ => HRW.out.nw encS_len, p5, HRD.out, HB.out.side, fun _ => rfl⟩
    clear HI hB hrow hRd hgo hLi
    go_wp2_with fail
    try go_ret2
    exact HP.out
  have hin' : (i : Int) < (k1 : Int) * 256 + (k2 : Int) := by omega
  have hcall := nxt_any w0 V br a n c p5 hRd hn hnc hc xs HX.out
  obtain ⟨m, hm⟩ : ∃ m, k1 * 256 + k2 - i = m + 1 := ⟨k1 * 256 + k2 - i - 1, by omega⟩
  rw [hm] at hgo
  have HGO := hid_of hgo
  have HM := hid_of hm
  clear HI hB hrow hRd hgo hLi hm
  go_wp2_with fail
  refine hcall.mono ?_
  rintro e V6 ⟨k3, ok3, p6, rfl, hN3, hR6, hS6⟩
  dsimp only
  have hF6 := HB.out.call hS6
  have hB6 := HB.out.step hF6 (fun e => by have := (Lab.a.inj e).2; omega)
  have hrow6 := HRW.out.fr hF6 (fun e => by have := (Lab.a.inj e).2; omega)
  have hk3 := hN3.lt
  rcases hN3.cases with ⟨rfl, x, hx, hdx⟩ | ⟨rfl, hdx, hp6⟩
  rotate_left 1
  · have HP : Hid (Q (.returned (.tuple #[.slice none 0 0, .int .i64 19])) V6) := by
      have e1 : tot = (19, [], []) := by rw [← HGO.out, hdx]; rfl
      have hg := HG.out
      rw [e1] at hg
      exact HBAD0.out _ V6 p6 hB6 hR6 19 (by decide) (by rw [hg])
    clear hcall hF6 hB6 hrow6 hR6 hS6 hN3 hdx hp6
    go_wp2_with fail
    try go_ret2
    exact HP.out
  have hgc : tot = if 64 < k3 then (21, [], []) else if (xs.drop p6).length < k3 then (19, [], []) else if (xs.drop p6).take k3 ∈ L then (22, [], []) else goP m (L ++ [(xs.drop p6).take k3]) ((xs.drop p6).drop k3) := by
    rw [← HGO.out, hdx, goP_cons, hx]
  have HGC := hid_of hgc
  have HB6 := hid_of hB6
  have HR6 := hid_of hR6
  have HW6 := hid_of hrow6
  have hb6 := hR6.1
  have hf6 := hR6.2.1
  have hp6n := hR6.2.2.2.2
  have hxl := HXL.out
  have hdl : (xs.drop p6).length = n - p6 := by rw [List.length_drop, hxl]
  have HDL := hid_of hdl
  clear hcall hF6 hB6 hrow6 hR6 hS6 hN3 hdx hx hgc HB HRW HRD hdl hxl
  by_cases h64 : 64 < k3
  · have h64' : (64 : Int) < (k3 : Int) := by omega
    have HP : Hid (Q (.returned (.tuple #[.slice none 0 0, .int .i64 21])) V6) := by
      have hg := HG.out
      rw [HGC.out, if_pos h64] at hg
      exact HBAD0.out _ V6 p6 HB6.out HR6.out 21 (by decide) (by rw [hg])
    go_wp2_with fail
    try go_ret2
    exact HP.out
  have h64' : ¬ (64 : Int) < (k3 : Int) := by omega
  have hw1 : IntKind.i64.wrap ((p6 : Int) + (k3 : Int)) = (p6 : Int) + (k3 : Int) := by rw [IntKind.wrap_i64]; omega
  by_cases hlk : n < p6 + k3
  · have hlk' : (n : Int) < (p6 : Int) + (k3 : Int) := by omega
    have HP : Hid (∀ j, Q (.returned (.tuple #[.slice none 0 0, .int .i64 19])) (V6.drewN j)) := by
      intro j
      have hg := HG.out
      rw [HGC.out, if_neg h64, if_pos (by rw [HDL.out]; omega)] at hg
      refine HBAD0.out _ (V6.drewN j) p6 (HB6.out.step (Fr.of_extends (L := fun _ => False) (extends_drewN (ext_Ext (Ext.refl _)) j)) (fun e => e)) (HR6.out.drewN j) 19 (by decide) (by rw [hg])
    go_upto_region 14 with fail
    go_quiet (fail)
    go_wp2_with fail
    try go_ret2
    exact HP.out _
  have hlk' : ¬ (n : Int) < (p6 : Int) + (k3 : Int) := by omega
  obtain ⟨nm, hnm⟩ : ∃ nm, nm = (xs.drop p6).take k3 := ⟨_, rfl⟩
  have HGE : Hid (tot = if nm ∈ L then (22, [], []) else goP m (L ++ [nm]) ((xs.drop p6).drop k3)) := by
    show _ = _
    rw [HGC.out, if_neg h64, if_neg (by rw [HDL.out]; omega), ← hnm]
  have hsl : ∀ W', (sliceOp 31 (.slice a n c) (some (.int .i64 (p6 : Int))) (some (.int .i64 ((p6 : Int) + (k3 : Int)))) none).run Tryz.prog W' = .ok (.value (.slice (cutA a p6 c) k3 (c - p6))) W' := fun W' => by
    have := Tryz.sl27 W' a n c p6 (p6 + k3) (by omega) (by omega)
    rw [show p6 + k3 - p6 = k3 by omega] at this
    rw [← this]; congr 3
  have hcv : ∀ W', w0.Extends W' → (convOp 31 9 (.slice (cutA a p6 c) k3 (c - p6))).run Tryz.prog W' = .ok (.value (.string ⟨nm.toArray⟩)) W' := fun W' hx => by
    have := conv_str (c := c - p6) ((HX.out.grow hx).cut (l := p6) (k := k3) (cap := c) (by omega) hnc)
    rw [← hnm] at this
    exact this
  have hx6 : w0.Extends V6 := HR6.out.2.2.1
  clear hnm HGC HDL
  go_upto_region 14 with fail
  go_quiet (fail)
  go_upto_region 16 with fail
  refine wp_world (fun V => ∃ O, Bld br W O V ∧ RowL W.heap.size O (.a 6 1) V 9 1 (.slice a' i c') L.length (L.flatMap encS) ∧ Rdr w0 br a n c p6 V) ?_ ?_
  · have hF := Fr.of_extends (L := fun _ => False) (O := lab O5 V.heap.size .no) (extends_drewN (ext_Ext (Ext.refl V6)) nq)
    exact ⟨_, HB6.out.step hF (fun e => e), HW6.out.fr hF (fun e => e), HR6.out.drewN _⟩
  intro V7 HV7
  obtain ⟨O7, hB7, hrow7, hR7⟩ := HV7
  clear hb6 hf6 HB6 HR6 HW6 hx6
  have hb7 := hR7.1
  have hf7 := hR7.2.1
  have hS0 : blk V7.drew br = some (rdE a n c (p6 : Nat)) ∧ (convOp 31 9 (.slice (cutA a p6 c) k3 (c - p6))).run Tryz.prog V7.drew = .ok (.value (.string ⟨nm.toArray⟩)) V7.drew := ⟨hb7, hcv _ (extends_drew hR7.2.2.1)⟩
  have HW8 : Hid (∃ O, Bld br W O (put V7.drew br (rdE a n c ((p6 + k3 : Nat) : Int))) ∧ RowL W.heap.size O (.a 6 1) (put V7.drew br (rdE a n c ((p6 + k3 : Nat) : Int))) 9 1 (.slice a' i c') L.length (L.flatMap encS) ∧ Rdr w0 br a n c (p6 + k3) (put V7.drew br (rdE a n c ((p6 + k3 : Nat) : Int)))) := by
    have hF : Fr (fun l => l = .a 6 0) O7 V7 O7 (put V7.drew br (rdE a n c ((p6 + k3 : Nat) : Int))) := ((Fr.refl (fun l => l = .a 6 0) O7 V7).drew).put (L := fun l => l = .a 6 0) hB7.own _
    have hRd : Rdr w0 br a n c p6 V7.drew := hR7.drewN 1
    exact ⟨_, hB7.step hF (fun e => by have := (Lab.a.inj e).2; omega), hrow7.fr hF (fun e => by have := (Lab.a.inj e).2; omega), hRd.step (q := p6 + k3) (by omega)⟩
  have e8 : ((p6 + k3 : Nat) : Int) = (p6 : Int) + (k3 : Int) := by omega
  rw [e8] at HW8
  have hb7' : blk V7.drew br = some (rdE a n c (p6 : Nat)) := hb7
  have hf7' : free V7.drew br = true := hf7
  clear hB7 hrow7 hR7 hb7 hf7 hcv e8
  refine wp_region_held_drew (S := fun W' => blk W' br = some (rdE a n c (p6 : Nat)) ∧ (convOp 31 9 (.slice (cutA a p6 c) k3 (c - p6))).run Tryz.prog W' = .ok (.value (.string ⟨nm.toArray⟩)) W') (by kernel_rfl) hS0 (fun hHeld => ?_)
  refine wpAnyH_take (i := 0) (oi := ⟨_, _, _, _, _, _⟩) (v := ?_) rfl (by kernel_rfl) (by kernel_rfl) (by kernel_rfl) (fun _ _ _ h => h) (Or.inl ⟨by rfl, ?_⟩) (by assumption) ?_
  rotate_left 1
  · intro W' hSw
    obtain ⟨hS1, hS2⟩ := hSw
    go_simp
    try with_reducible rfl
  try simp only [Act.put, List.setIfInBounds_toArray, List.set_cons_zero, List.set_cons_succ]
  refine wpAnyH_take (i := 1) (oi := ⟨_, _, _, _, _, _⟩) (v := ?_) rfl (by kernel_rfl) (by kernel_rfl) (by kernel_rfl) (fun _ _ _ h => h) (Or.inl ⟨by rfl, ?_⟩) (by assumption) ?_
  rotate_left 1
  · intro W' hSw
    obtain ⟨hS1, hS2⟩ := hSw
    go_simp
    try with_reducible rfl
  try simp only [Act.put, List.setIfInBounds_toArray, List.set_cons_zero, List.set_cons_succ]
  refine wpAnyH_take (i := 2) (oi := ⟨_, _, _, _, _, _⟩) (v := ?_) rfl (by kernel_rfl) (by kernel_rfl) (by kernel_rfl) (fun _ _ _ h => h) (Or.inl ⟨by rfl, ?_⟩) (by assumption) ?_
  rotate_left 1
  · intro W' hSw
    obtain ⟨hS1, hS2⟩ := hSw
    go_simp
    try with_reducible rfl
  try simp only [Act.put, List.setIfInBounds_toArray, List.set_cons_zero, List.set_cons_succ]
  refine wpAnyH_take (i := 3) (oi := ⟨_, _, _, _, _, _⟩) (v := ?_) rfl (by kernel_rfl) (by kernel_rfl) (by kernel_rfl) (fun _ _ _ h => h) (Or.inl ⟨by rfl, ?_⟩) (by assumption) ?_
  rotate_left 1
  · intro W' hSw
    obtain ⟨hS1, hS2⟩ := hSw
    go_simp
    try with_reducible rfl
  try simp only [Act.put, List.setIfInBounds_toArray, List.set_cons_zero, List.set_cons_succ]
  refine wpAnyH_take (i := 4) (oi := ⟨_, _, _, _, _, _⟩) (v := ?_) rfl (by kernel_rfl) (by kernel_rfl) (by kernel_rfl) (fun _ _ _ h => h) (Or.inl ⟨by rfl, ?_⟩) (by assumption) ?_
  rotate_left 1
  · intro W' hSw
    obtain ⟨hS1, hS2⟩ := hSw
    go_simp
    try with_reducible rfl
  try simp only [Act.put, List.setIfInBounds_toArray, List.set_cons_zero, List.set_cons_succ]
  refine wpAnyH_take (i := 5) (oi := ⟨_, _, _, _, _, _⟩) (v := ?_) rfl (by kernel_rfl) (by kernel_rfl) (by kernel_rfl) (fun _ _ _ h => h) (Or.inl ⟨by rfl, ?_⟩) (by assumption) ?_
  rotate_left 1
  · intro W' hSw
    obtain ⟨hS1, hS2⟩ := hSw
    go_simp
    try with_reducible rfl
  try simp only [Act.put, List.setIfInBounds_toArray, List.set_cons_zero, List.set_cons_succ]
  refine wpAnyH_take (i := 6) (oi := ⟨_, _, _, _, _, _⟩) (v := ?_) rfl (by kernel_rfl) (by kernel_rfl) (by kernel_rfl) (fun _ _ _ h => h) (Or.inl ⟨by rfl, ?_⟩) (by assumption) ?_
  rotate_left 1
  · intro W' hSw
    obtain ⟨hS1, hS2⟩ := hSw
    go_simp
    try with_reducible rfl
  try simp only [Act.put, List.setIfInBounds_toArray, List.set_cons_zero, List.set_cons_succ]
  refine wpAnyH_take (i := 7) (oi := ⟨_, _, _, _, _, _⟩) (v := ?_) rfl (by kernel_rfl) (by kernel_rfl) (by kernel_rfl) (fun _ _ _ h => h) (Or.inl ⟨by rfl, ?_⟩) (by assumption) ?_
  rotate_left 1
  · intro W' hSw
    obtain ⟨hS1, hS2⟩ := hSw
    go_simp
    try with_reducible rfl
  try simp only [Act.put, List.setIfInBounds_toArray, List.set_cons_zero, List.set_cons_succ]
  refine wpAnyH_take (i := 8) (oi := ⟨_, _, _, _, _, _⟩) (v := ?_) rfl (by kernel_rfl) (by kernel_rfl) (by kernel_rfl) (fun _ _ _ h => h) (Or.inl ⟨by rfl, ?_⟩) (by assumption) ?_
  rotate_left 1
  · intro W' hSw
    obtain ⟨hS1, hS2⟩ := hSw
    go_simp
    try with_reducible rfl
  try simp only [Act.put, List.setIfInBounds_toArray, List.set_cons_zero, List.set_cons_succ]
  refine wpAnyH_take (i := 9) (oi := ⟨_, _, _, _, _, _⟩) (v := ?_) rfl (by kernel_rfl) (by kernel_rfl) (by kernel_rfl) (fun _ _ _ h => h) (Or.inl ⟨by rfl, ?_⟩) (by assumption) ?_
  rotate_left 1
  · intro W' hSw
    obtain ⟨hS1, hS2⟩ := hSw
    go_simp
    try with_reducible rfl
  try simp only [Act.put, List.setIfInBounds_toArray, List.set_cons_zero, List.set_cons_succ]
  refine wpAnyH_take (i := 10) (oi := ⟨_, _, _, _, _, _⟩) (v := ?_) rfl (by kernel_rfl) (by kernel_rfl) (by kernel_rfl) (fun _ _ _ h => h) (Or.inl ⟨by rfl, ?_⟩) (by assumption) ?_
  rotate_left 1
  · intro W' hSw
    obtain ⟨hS1, hS2⟩ := hSw
    go_simp
    try with_reducible rfl
  try simp only [Act.put, List.setIfInBounds_toArray, List.set_cons_zero, List.set_cons_succ]
  refine wpAnyH_take (i := 11) (oi := ⟨_, _, _, _, _, _⟩) (v := ?_) rfl (by kernel_rfl) (by kernel_rfl) (by kernel_rfl) (fun _ _ _ h => h) (Or.inl ⟨by rfl, ?_⟩) (by assumption) ?_
  rotate_left 1
  · intro W' hSw
    obtain ⟨hS1, hS2⟩ := hSw
    go_simp
    try with_reducible rfl
  try simp only [Act.put, List.setIfInBounds_toArray, List.set_cons_zero, List.set_cons_succ]
  refine wpAnyH_take (i := 12) (oi := ⟨_, _, _, _, _, _⟩) (v := ?_) rfl (by kernel_rfl) (by kernel_rfl) (by kernel_rfl) (fun _ _ _ h => h) (Or.inl ⟨by rfl, ?_⟩) (by assumption) ?_
  rotate_left 1
  · intro W' hSw
    obtain ⟨hS1, hS2⟩ := hSw
    go_simp
    try with_reducible rfl
  try simp only [Act.put, List.setIfInBounds_toArray, List.set_cons_zero, List.set_cons_succ]
  refine wpAnyH_take (i := 13) (oi := ⟨_, _, _, _, _, _⟩) (v := ?_) rfl (by kernel_rfl) (by kernel_rfl) (by kernel_rfl) (fun _ _ _ h => h) (Or.inl ⟨by rfl, ?_⟩) (by assumption) ?_
  rotate_left 1
  · intro W' hSw
    obtain ⟨hS1, hS2⟩ := hSw
    go_simp
    try with_reducible rfl
  try simp only [Act.put, List.setIfInBounds_toArray, List.set_cons_zero, List.set_cons_succ]
  refine wpAnyH_take (i := 14) (oi := ⟨_, _, _, _, _, _⟩) (v := ?_) rfl (by kernel_rfl) (by kernel_rfl) (by kernel_rfl) (fun _ _ _ h => h) (Or.inl ⟨by rfl, ?_⟩) (by assumption) ?_
  rotate_left 1
  · intro W' hSw
    obtain ⟨hS1, hS2⟩ := hSw
    go_simp
    try with_reducible rfl
  try simp only [Act.put, List.setIfInBounds_toArray, List.set_cons_zero, List.set_cons_succ]
  refine wpAnyH_take (i := 15) (oi := ⟨_, _, _, _, _, _⟩) (v := ?_) rfl (by kernel_rfl) (by kernel_rfl) (by kernel_rfl) (fun _ _ _ h => h) (Or.inl ⟨by rfl, ?_⟩) (by assumption) ?_
  rotate_left 1
  · intro W' hSw
    obtain ⟨hS1, hS2⟩ := hSw
    go_simp
    try with_reducible rfl
  try simp only [Act.put, List.setIfInBounds_toArray, List.set_cons_zero, List.set_cons_succ]
  refine wpAnyH_take (i := 16) (oi := ⟨_, _, _, _, _, _⟩) (v := ?_) rfl (by kernel_rfl) (by kernel_rfl) (by kernel_rfl) (fun _ _ _ h => h) (Or.inl ⟨by rfl, ?_⟩) (by assumption) ?_
  rotate_left 1
  · intro W' hSw
    obtain ⟨hS1, hS2⟩ := hSw
    go_simp
    try with_reducible rfl
  try simp only [Act.put, List.setIfInBounds_toArray, List.set_cons_zero, List.set_cons_succ]
  refine wpAnyH_done (by kernel_rfl) ?_ _
  go_upto_region 19 with fail
  refine wp_world (fun V => ∃ O, Bld br W O V ∧ RowL W.heap.size O (.a 6 1) V 9 1 (.slice a' i c') L.length (L.flatMap encS) ∧ Rdr w0 br a n c (p6 + k3) V) HW8.out ?_
  intro V8 HV8
  clear HW8 hb7' hf7' hS0 hsl
  obtain ⟨O8, hB8, hrow8, hR8⟩ := HV8
  have HB8 := hid_of hB8
  have HW8 := hid_of hrow8
  have HR8 := hid_of hR8
  clear hB8 hrow8 hR8
  refine wp_loop_f 100 (poJ V8 br k1 k2 i a' c' nm L) (fun f _ => i - (intOf (f 13)).toNat) rfl ⟨rfl, rfl, rfl, rfl, rfl, rfl, ⟨_, rfl, rfl⟩, 0, by omega, rfl, fun j x h => absurd h (Nat.not_lt_zero _)⟩ ?_
  intro F2 V9 hrel
  obtain ⟨f0, f4, f5, f7, f9, f12, HV, k, hk, f13, HO⟩ := hrel
  have H13 := hid_of f13
  rw [frame100p, f0, f4, f5, f7, f9, f12, f13]
  clear f0 f4 f5 f7 f9 f12 f13
  obtain ⟨W', e1, e2⟩ := HV.out
  subst e1
  subst e2
  clear HV
  by_cases hki : k < i
  · have hki' : (k : Int) < (i : Int) := by omega
    have k0 : (0 : Int) ≤ (k : Int) := by omega
    have kt : ((k : Int)).toNat = k := by omega
    obtain ⟨y, hy⟩ : ∃ y, L[k]? = some y := ⟨_, List.getElem?_eq_getElem (by rw [HLI.out]; exact hki)⟩
    obtain ⟨bs, Cs, s1, s2, s3, s4⟩ := str_at (HW8.out.rw encS_len).1 hy
    subst s1
    by_cases hyn : y = nm
    · subst hyn
      have HP : Hid (Q (.returned (.tuple #[.slice none 0 0, .int .i64 22])) V9) := by
        have hg := HG.out
        rw [HGE.out, if_pos (List.mem_of_getElem? hy)] at hg
        exact HBAD0.out _ V9 (p6 + k3) HB8.out HR8.out 22 (by decide) (by rw [hg])
      clear hy
      go_wp2_with fail
      try go_ret2
      exact HP.out
    · have hyn' := str_ne hyn
      have hyb := str_beq hyn
      have HO' : Hid (∀ j x, j < k + 1 → L[j]? = some x → x ≠ nm) := fun j x hj hx => by
        by_cases h9 : j = k
        · rw [h9, hy] at hx
          rw [← Option.some.inj hx]; exact hyn
        · exact HO.out j x (by omega) hx
      clear hy HO hyn
      go_wp2_with fail
      refine ⟨rfl, rfl, ⟨rfl, rfl, rfl, rfl, rfl, rfl, ⟨_, rfl, rfl⟩, k + 1, by omega, ?_, HO'⟩, ?_⟩
      · show Value.int .i64 _ = _
        go_num
      · show i - (intOf (Value.int .i64 _)).toNat < i - (intOf (F2 13)).toNat
        rw [H13.out]
        simp [intOf]; omega
  · have hki' : ¬ (k : Int) < (i : Int) := by omega
    have hnot : nm ∉ L := fun h => by
      obtain ⟨j, hj⟩ := List.mem_iff_getElem?.1 h
      exact HO.out j nm (by have := (List.getElem?_eq_some_iff.1 hj).1; rw [HLI.out] at this; omega) hj rfl
    obtain ⟨a2, c2, V10, hrun, hrow10, hF10⟩ := appL encS 1 16 43 9 el50.und el50.info el50.len el50.one el50.pos el50.small 43 nm HW8.out HB8.out.fr.size (by have := HLI.out; omega) (encS nm).toArray rfl 1
    have HI' : Hid (∃ O L p, Bld br W O V10 ∧ RowL W.heap.size O (.a 6 1) V10 9 1 (.slice a2 (i + 1) c2) L.length (L.flatMap encS) ∧ Rdr w0 br a n c p V10 ∧ goP (k1 * 256 + k2 - (i + 1)) L (xs.drop p) = tot) := by
      refine ⟨_, L ++ [nm], p6 + k3, HB8.out.step hF10 (fun e => by have := (Lab.a.inj e).2; omega), hrow10, HB8.out.rdr HR8.out.2.2.2.1 HR8.out hF10 (fun e => by have := (Lab.a.inj e).2; omega) (fun e => by have := (Lab.a.inj e).2; omega), ?_⟩
      have e2 : k1 * 256 + k2 - (i + 1) = m := by have := HM.out; omega
      rw [e2, HGE.out, if_neg hnot, List.drop_drop]
    clear hnot hrow10 hF10 HO HB8 HW8 HR8
    go_wp2_with (at_builtin; refine wpList_append_run rfl _ _ 43 rfl _ _ _ _ rfl rfl hrun ?_)
    refine ⟨rfl, rfl, ⟨rfl, rfl, rfl, i + 1, _, _, by omega, rfl, ?_, HI'⟩, ?_⟩
    · show Value.int .i64 _ = _
      go_num
    · show k1 * 256 + k2 - (intOf (Value.int .i64 _)).toNat < k1 * 256 + k2 - (intOf (F 9)).toNat
      rw [H9.out]
      simp [intOf]; omega
end Go.Proofs.Qxb6500787aGreat
