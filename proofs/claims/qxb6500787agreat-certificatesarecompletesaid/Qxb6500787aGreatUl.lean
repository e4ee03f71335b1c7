
import Derived.Test.Qxb6500787aGreatUk
import Derived.StillTailTactics
import Derived.Deep.QuietTactic
import Derived.BigQuiet
import Derived.Deep.RegionHeld
import Derived.Deep.CutRange
import Derived.Laws.ResultCell
import Derived.Laws.Rows
import Derived.DeepKeys
import Derived.DataBytes
import Derived.Laws.StructEq
import Derived.Laws.AppendOwn
import Derived.Laws.MakeOwn
import Derived.Lib.AppendStr
set_option linter.unusedSimpArgs false
set_option linter.unusedVariables false
namespace Go.Proofs.Qxb6500787aGreat
open Go.RowKit Go.Blk
attribute [local go_sem ↓] execOp_load execOp_store execOp_alloc
attribute [local go_sem] Tryz.ld26 Tryz.st26 Tryz.ld27 Tryz.st27 Tryz.ld28 Tryz.st28 Tryz.ld3 Tryz.st3 Tryz.ld29 Tryz.st29 Tryz.ld44 Tryz.st44 Tryz.ld4 Tryz.st4 Tryz.ld50 Tryz.st50 Tryz.ld32 Tryz.st32 Tryz.ld49 Tryz.st49 Tryz.ld68 Tryz.st68 Tryz.ld9 Tryz.st9 Tryz.ld40 Tryz.st40 Tryz.ld138 Tryz.st138 Tryz.ld139 Tryz.st139 Tryz.ld146 Tryz.st146 Tryz.ld183 Tryz.st183 Tryz.ld184 Tryz.st184 Tryz.ld192 Tryz.st192 Tryz.ld195 Tryz.st195 Tryz.ld217 Tryz.st217 Tryz.ld159 Tryz.st159 Tryz.ld142 Tryz.st142 Tryz.ld2 Tryz.st2 Tryz.ld5 Tryz.st5 Tryz.ld12 Tryz.st12 Tryz.ld21 Tryz.st21 Tryz.ld22 Tryz.st22 Tryz.ld24 Tryz.st24 Tryz.ld58 Tryz.st58 Tryz.ld97 Tryz.st97 Tryz.ld101 Tryz.st101 Tryz.ld116 Tryz.st116 Tryz.ld121 Tryz.st121 Tryz.ld135 Tryz.st135 Tryz.ld136 Tryz.st136 Tryz.ld143 Tryz.st143 Tryz.ld148 Tryz.st148 Tryz.ld154 Tryz.st154 Tryz.ld173 Tryz.st173 Tryz.ld187 Tryz.st187 Tryz.ld222 Tryz.st222 Tryz.ld241 Tryz.st241 Tryz.ld248 Tryz.st248 Tryz.ld268 Tryz.st268 Tryz.ld272 Tryz.st272 Tryz.ld153 Tryz.st153 Tryz.ld255 Tryz.st255 Tryz.ld256 Tryz.st256 Tryz.ld129 Tryz.st129 Tryz.ld152 Tryz.st152 Tryz.ld31 Tryz.st31 Tryz.ld46 Tryz.st46 Tryz.ld52 Tryz.st52 Tryz.ld54 Tryz.st54 Tryz.ld60 Tryz.st60 Tryz.ld70 Tryz.st70 Tryz.ld74 Tryz.st74 Tryz.ld93 Tryz.st93 Tryz.ld141 Tryz.st141 Tryz.ld151 Tryz.st151 Tryz.ld170 Tryz.st170 Tryz.ld186 Tryz.st186 Tryz.ld189 Tryz.st189 Tryz.ld194 Tryz.st194 Tryz.ld197 Tryz.st197 Tryz.ld219 Tryz.st219 Tryz.ld224 Tryz.st224 Tryz.ld230 Tryz.st230 Tryz.ld235 Tryz.st235 Tryz.ld243 Tryz.st243 Tryz.ld247 Tryz.st247 Tryz.ld252 Tryz.st252 Tryz.ld258 Tryz.st258 Tryz.al153 Tryz.al255 Tryz.al256 Tryz.al129 Tryz.al152 Tryz.al31 Tryz.al46 Tryz.al52 Tryz.al54 Tryz.al60 Tryz.al70 Tryz.al74 Tryz.al93 Tryz.al141 Tryz.al151 Tryz.al170 Tryz.al186 Tryz.al189 Tryz.al194 Tryz.al197 Tryz.al219 Tryz.al224 Tryz.al230 Tryz.al235 Tryz.al243 Tryz.al247 Tryz.al252 Tryz.al258
attribute [local go_sem] Request.length_enc Request.ok_enc Request.all_get Request.all_set Request.kind_get Request.kind_set Request.blob_get Request.blob_set Request.items_get Request.items_set Request.pred_get Request.pred_set Request.slots_get Request.slots_set Trace.length_enc Trace.ok_enc Trace.all_get Trace.all_set Trace.op_get Trace.op_set Trace.calls_get Trace.calls_set Item.length_enc Item.ok_enc Item.all_get Item.all_set Item.del_get Item.del_set Item.pred_get Item.pred_set Item.args_get Item.args_set Reply.length_enc Reply.ok_enc Reply.all_get Reply.all_set Reply.code_get Reply.code_set Reply.kind_get Reply.kind_set Reply.index_get Reply.index_set Reply.yes_get Reply.yes_set Reply.preds_get Reply.preds_set Reply.rules_get Reply.rules_set Reply.arity_get Reply.arity_set Reply.rows_get Reply.rows_set Reply.fact_get Reply.fact_set Reply.fact_del_get Reply.fact_del_set Reply.fact_pred_get Reply.fact_pred_set Reply.fact_args_get Reply.fact_args_set GEntry.length_enc GEntry.ok_enc GEntry.all_get GEntry.all_set GEntry.seq_get GEntry.seq_set GEntry.kind_get GEntry.kind_set GEntry.code_get GEntry.code_set GOp.length_enc GOp.ok_enc GOp.all_get GOp.all_set GOp.kind_get GOp.kind_set GOp.raw_get GOp.raw_set Reader.length_enc Reader.ok_enc Reader.all_get Reader.all_set Reader.buf_get Reader.buf_set Reader.at__get Reader.at__set Slot.length_enc Slot.ok_enc Slot.all_get Slot.all_set Slot.bound_get Slot.bound_set Slot.name_get Slot.name_set Session.length_enc Session.ok_enc Session.all_get Session.all_set Session.svc_get Session.svc_set Session.buf_get Session.buf_set Session.closed_get Session.closed_set GProgram.length_enc GProgram.ok_enc GProgram.all_get GProgram.all_set GProgram.pool_get GProgram.pool_set GProgram.preds_get GProgram.preds_set GProgram.rules_get GProgram.rules_set GProgram.strata_get GProgram.strata_set PredInfo.length_enc PredInfo.ok_enc PredInfo.all_get PredInfo.all_set PredInfo.arity_get PredInfo.arity_set PredInfo.base_get PredInfo.base_set PredInfo.stratum_get PredInfo.stratum_set Change.length_enc Change.ok_enc Change.all_get Change.all_set Change.del_get Change.del_set Change.pred_get Change.pred_set Change.t_get Change.t_set Store.length_enc Store.ok_enc Store.all_get Store.all_set Store.names_get Store.names_set Store.arity_get Store.arity_set Store.rows_get Store.rows_set Src.length_enc Src.ok_enc Src.all_get Src.all_set Src.b_get Src.b_set Src.at__get Src.at__set Atom.length_enc Atom.ok_enc Atom.all_get Atom.all_set Atom.pred_get Atom.pred_set Atom.args_get Atom.args_set GRule.length_enc GRule.ok_enc GRule.all_get GRule.all_set GRule.head_get GRule.head_set GRule.body_get GRule.body_set GRule.head_pred_get GRule.head_pred_set GRule.head_args_get GRule.head_args_set Cert.length_enc Cert.ok_enc Cert.all_get Cert.all_set Cert.names_get Cert.names_set Cert.nodes_get Cert.nodes_set Fact.length_enc Fact.ok_enc Fact.all_get Fact.all_set Fact.pred_get Fact.pred_set Fact.t_get Fact.t_set Literal.length_enc Literal.ok_enc Literal.all_get Literal.all_set Literal.neg_get Literal.neg_set Literal.atom_get Literal.atom_set Literal.atom_pred_get Literal.atom_pred_set Literal.atom_args_get Literal.atom_args_set Engine.length_enc Engine.ok_enc Engine.all_get Engine.all_set Engine.prog_get Engine.prog_set Engine.st_get Engine.st_set SrcCertm.length_enc SrcCertm.ok_enc SrcCertm.all_get SrcCertm.all_set SrcCertm.b_get SrcCertm.b_set SrcCertm.at__get SrcCertm.at__set GNode.length_enc GNode.ok_enc GNode.all_get GNode.all_set GNode.rule_get GNode.rule_set GNode.pred_get GNode.pred_set GNode.vals_get GNode.vals_set GNode.refs_get GNode.refs_set Term.length_enc Term.ok_enc Term.all_get Term.all_set Term.var_get Term.var_set Term.n_get Term.n_set Env.length_enc Env.ok_enc Env.all_get Env.all_set Env.val_get Env.val_set Env.set_get Env.set_set
attribute [local go_sem] size_put size_ext blk_put free_put blk_alloc free_alloc blk_drew free_drew blk_ext free_ext lookOr_some putOr_some segAt_some cellAt_some storeIn_some put_put put_alloc_new length_arr ok_arr_u8 ok_arr_u32 ok_arr_u64 ok_arr_i64 ok_arr_sl cellsV_agg cellsV_int cellsV_bool cellsV_string cellsV_pointer cellsV_slice cellsV_sl ok_int ok_bool ok_string ok_pointer ok_slice ok_sl toList_arr seg_arr set_arr nth_splice nth_splice0 seg_splice seg_splice0 splice_splice splice_splice0 length_splice_if
attribute [local go_sem ↓] execOp_box
attribute [local go_sem] box_run nth_arr_u8 put_arr_u8 blk_drewN free_drewN put_drewN blk_raw free_raw
/-- A number of two bytes, or the end. -/
def TwR (xs : List UInt8) (p v : Nat) (ok : Bool) (p' : Nat) : Prop := (ok = true ∧ ∃ x y : UInt8, xs.drop p = x :: y :: xs.drop p' ∧ v = x.toNat * 256 + y.toNat) ∨ (ok = false ∧ (xs.drop p).length < 2)
def TwPost (w0 : World) (br : Nat) (a : Option Addr) (n c p : Nat) (xs : List UInt8) (W : World) (e : Ending) (W' : World) : Prop := ∃ (v : Nat) (ok : Bool) (p' : Nat), e = .returned (.tuple #[.int .i64 ((v : Nat) : Int), .bool ok]) ∧ v ≤ 65535 ∧ TwR xs p v ok p' ∧ Rdr w0 br a n c p' W' ∧ Side (isR br) W W'
set_option maxRecDepth 20000 in
set_option maxHeartbeats 1000000 in
theorem two_any (w0 W : World) (br : Nat) (a : Option Addr) (n c p : Nat) (hR : Rdr w0 br a n c p W) (hn : n ≤ 65536) (hnc : n ≤ c) (hc : c ≤ 9223372036854775807) (xs : List UInt8) (hX : Bs w0 a n xs) : Calls Tryz.prog 164 #[.pointer (some ⟨br, 0, none⟩)] W (TwPost w0 br a n c p xs W) := by
  obtain ⟨Q, hQ⟩ : ∃ Q, Q = TwPost w0 br a n c p xs W := ⟨_, rfl⟩
  rw [← hQ]
  have HQ := hid_of hQ
  have HX := hid_of hX
  have hcall := one_any w0 W br a n c p hR hn hnc hc xs hX
  clear hR hX hQ
  go_enter Tryz.func164, Tryz.ntmps164
  go_wp2_with fail
  refine hcall.mono ?_
  rintro e V1 ⟨k1, ok1, p1, rfl, hN1, hR1, hS1⟩
  dsimp only
  have hcall2 := one_any w0 V1 br a n c p1 hR1 hn hnc hc xs HX.out
  have HN1 := hid_of hN1
  have HS1 := hid_of hS1
  have hk1 := hN1.lt
  clear hN1 hR1 hS1 hcall
  go_wp2_with fail
  refine hcall2.mono ?_
  rintro e V2 ⟨k2, ok2, p2, rfl, hN2, hR2, hS2⟩
  dsimp only
  have hk2 := hN2.lt
  have HP : Hid (∀ ok, ok = (ok1 && ok2) → Q (.returned (.tuple #[.int .i64 ((k1 : Int) * 256 + (k2 : Int)), .bool ok])) V2) := by
    intro ok hok
    rw [HQ.out]
    refine ⟨k1 * 256 + k2, ok, p2, by push_cast; rfl, by omega, ?_, hR2, HS1.out.trans hS2⟩
    rcases HN1.out.cases with ⟨e1, x, hx, hd⟩ | ⟨e1, hd, hp⟩
    · rcases hN2.cases with ⟨e2, y, hy, hd2⟩ | ⟨e2, hd2, hp2⟩
      · exact .inl ⟨by rw [hok, e1, e2]; rfl, x, y, by rw [hd, hd2], by rw [hx, hy]⟩
      · exact .inr ⟨by rw [hok, e2]; simp, by rw [hd, hd2]; simp⟩
    · exact .inr ⟨by rw [hok, e1]; rfl, by rw [hd]; simp⟩
  clear hN2 hR2 hS2 hcall2 HN1 HS1
  cases ok1 with
  | false =>
    have HP2 := hid_of (HP.out false rfl)
    clear HP
    go_wp2_with fail
    try go_ret2
    exact HP2.out
  | true =>
    have HP2 := hid_of (HP.out ok2 (by simp))
    clear HP
    go_wp2_with fail
    try go_ret2
    exact HP2.out
/-- Numbers of two bytes. -/
def goV : Nat → List Int → List UInt8 → Option (List Int × List UInt8)
  | 0, acc, ys => some (acc, ys)
  | m + 1, acc, x :: y :: r => goV m (acc ++ [((x.toNat * 256 + y.toNat : Nat) : Int)]) r
  | _ + 1, _, _ => none
theorem goV_none {m : Nat} {acc : List Int} {ys : List UInt8} (h : ys.length < 2) : goV (m + 1) acc ys = none := by
  match ys, h with
  | [], _ => rfl
  | [x], _ => rfl
def refsD : List UInt8 → Option (List Int × List UInt8)
  | [] => none
  | k :: r => goV k.toNat [] r
def RfPost (w0 : World) (br : Nat) (a : Option Addr) (n c p : Nat) (xs : List UInt8) (W : World) (e : Ending) (W' : World) : Prop := ∃ a' n' c' ok p', e = .returned (.tuple #[.slice a' n' c', .bool ok]) ∧ Rdr w0 br a n c p' W' ∧ Side (isR br) W W' ∧ ((ok = true ∧ ∃ L, refsD (xs.drop p) = some (L, xs.drop p') ∧ Rw encZ 1 (newc W.heap.size W') a' n' L) ∨ (ok = false ∧ refsD (xs.drop p) = none))
def rfP (w0 W : World) (br : Nat) (a : Option Addr) (n c : Nat) (xs : List UInt8) (K : Nat) (tot : Option (List Int × List UInt8)) (i : Nat) (ok : Bool) (a' : Option Addr) (c' : Nat) (V : World) : Prop := ∃ O L p, Bld br W O V ∧ RowL W.heap.size O (.a 6 1) V 3 1 (.slice a' i c') L.length (L.flatMap encZ) ∧ Rdr w0 br a n c p V ∧ (ok = true → goV (K - i) L (xs.drop p) = tot) ∧ (ok = false → tot = none)
def rfI (w0 W : World) (br : Nat) (a : Option Addr) (n c : Nat) (xs : List UInt8) (K : Nat) (tot : Option (List Int × List UInt8)) (f : Nat → Value) (V : World) : Prop := f 0 = .pointer (some ⟨br, 0, none⟩) ∧ f 4 = .int .i64 (K : Nat) ∧ ∃ (i : Nat) (ok : Bool) (a' : Option Addr) (c' : Nat), i ≤ K ∧ f 5 = .bool ok ∧ f 6 = .slice a' i c' ∧ f 7 = .int .i64 (i : Nat) ∧ Hid (rfP w0 W br a n c xs K tot i ok a' c' V)
theorem el183 : ElT encZ 1 8 180 3 := ⟨Tryz.underlying180, info3, encZ_len, encZ_one, by omega, by omega⟩
attribute [local go_sem ↓] execOp_bslice
attribute [local go_sem] bslice183
set_option maxRecDepth 100000 in
theorem frame33f (f : Nat → Value) : frameN 33 f = #[f 0, f 1, f 2, f 3, f 4, f 5, f 6, f 7, f 8, f 9, f 10, f 11, f 12, f 13, f 14, f 15, f 16, f 17, f 18, f 19, f 20, f 21, f 22, f 23, f 24, f 25, f 26, f 27, f 28, f 29, f 30, f 31, f 32] := by kernel_rfl
set_option maxRecDepth 40000 in
set_option maxHeartbeats 4000000 in
theorem refs_any (w0 W : World) (br : Nat) (a : Option Addr) (n c p : Nat) (hR : Rdr w0 br a n c p W) (hn : n ≤ 65536) (hnc : n ≤ c) (hc : c ≤ 9223372036854775807) (xs : List UInt8) (hX : Bs w0 a n xs) : Calls Tryz.prog 166 #[.pointer (some ⟨br, 0, none⟩)] W (RfPost w0 br a n c p xs W) := by
  obtain ⟨Q, hQ⟩ : ∃ Q, Q = RfPost w0 br a n c p xs W := ⟨_, rfl⟩
  rw [← hQ]
  have HQ := hid_of hQ
  have HX := hid_of hX
  have hbr := blk_lt hR.1
  have hcall := one_any w0 W br a n c p hR hn hnc hc xs hX
  clear hR hX hQ
  go_enter Tryz.func166, Tryz.ntmps166
  go_wp2_with fail
  refine hcall.mono ?_
  rintro e V1 ⟨k1, ok1, p1, rfl, hN1, hR1, hS1⟩
  dsimp only
  have hF1 := (Bld.refl hbr).call hS1
  have hB1 := (Bld.refl hbr).step hF1 (fun e => by have := (Lab.a.inj e).2; omega)
  have hk1 := hN1.lt
  obtain ⟨tot, htot⟩ : ∃ tot, tot = refsD (xs.drop p) := ⟨_, rfl⟩
  have HTOT := hid_of htot
  have HI0 : Hid (rfP w0 W br a n c xs k1 tot 0 ok1 none 0 V1) := by
    refine ⟨_, [], p1, hB1, RowL.nil _ _ _ _ _ _, hR1, fun e => ?_, fun e => ?_⟩
    · rcases hN1.cases with ⟨e1, x, hx, hd⟩ | ⟨e1, hd, hp⟩
      · rw [htot, hd, hx]; rfl
      · rw [e1] at e; cases e
    · rcases hN1.cases with ⟨e1, x, hx, hd⟩ | ⟨e1, hd, hp⟩
      · rw [e1] at e; cases e
      · rw [htot, hd]; rfl
  clear hF1 hB1 hN1 hR1 hS1 hcall htot
  go_upto_region 4 with fail
  refine wp_loop_f 33 (rfI w0 W br a n c xs k1 tot) (fun f _ => k1 - (intOf (f 7)).toNat) rfl ⟨rfl, rfl, 0, ok1, none, 0, by omega, rfl, rfl, rfl, HI0⟩ ?_
  clear HI0
  intro F V hrel
  obtain ⟨f0, f4, i, ok, a', c', hi, f5, f6, f7, HI⟩ := hrel
  have H7 := hid_of f7
  rw [frame33f, f0, f4, f5, f6, f7]
  clear f0 f4 f5 f6 f7
  obtain ⟨O5, L, p5, hB, hrow, hRd, hgo, hno⟩ := HI.out
  have hLi : L.length = i := (hrow.rw encZ_len).1.1
  cases ok with
  | false =>
    have HP : Hid (Q (.returned (.tuple #[.slice a' i c', .bool false])) V) := by
      show Q _ _
      rw [HQ.out]
      exact ⟨a', i, c', false, p5, rfl, hRd, hB.side, .inr ⟨rfl, by rw [← HTOT.out]; exact hno rfl⟩⟩
    clear HI hB hrow hRd hgo hno hLi
    go_wp2_with fail
    try go_ret2
    exact HP.out
  | true =>
    by_cases hin : i < k1
    rotate_left 1
    · have hin' : ¬ (i : Int) < (k1 : Int) := by omega
      have HP : Hid (Q (.returned (.tuple #[.slice a' i c', .bool true])) V) := by
        show Q _ _
        rw [HQ.out]
        have h9 := hgo rfl
        rw [show k1 - i = 0 by omega] at h9
        exact ⟨a', i, c', true, p5, rfl, hRd, hB.side, .inl ⟨rfl, L, by rw [← HTOT.out, ← h9]; rfl, hrow.nw encZ_len⟩⟩
      clear HI hB hrow hRd hgo hno hLi
      go_wp2_with fail
      try go_ret2
      exact HP.out
    have hin' : (i : Int) < (k1 : Int) := by omega
    have hcall := two_any w0 V br a n c p5 hRd hn hnc hc xs HX.out
    obtain ⟨m, hm⟩ : ∃ m, k1 - i = m + 1 := ⟨k1 - i - 1, by omega⟩
    have hgo' := hgo rfl
    rw [hm] at hgo'
    have HGO := hid_of hgo'
    have HM := hid_of hm
    have HB := hid_of hB
    have HRW := hid_of hrow
    have HLI := hid_of hLi
    clear HI hB hrow hRd hgo hno hLi hm hgo'
    go_wp2_with fail
    refine hcall.mono ?_
    rintro e V6 ⟨v, ok2, p6, rfl, hv, hT, hR6, hS6⟩
    dsimp only
    have hF6 := HB.out.call hS6
    have hB6 := HB.out.step hF6 (fun e => by have := (Lab.a.inj e).2; omega)
    have hrow6 := HRW.out.fr hF6 (fun e => by have := (Lab.a.inj e).2; omega)
    obtain ⟨a2, c2, V7, hrun, hrow7, hF7⟩ := appL encZ 1 8 180 3 el183.und el183.info el183.len el183.one el183.pos el183.small 180 ((v : Nat) : Int) hrow6 hB6.fr.size (by have := HLI.out; omega) (encZ ((v : Nat) : Int)).toArray rfl 1
    have HI' : Hid (rfP w0 W br a n c xs k1 tot (i + 1) ok2 a2 c2 V7) := by
      refine ⟨_, L ++ [((v : Nat) : Int)], p6, hB6.step hF7 (fun e => by have := (Lab.a.inj e).2; omega), hrow7, hB6.rdr hR6.2.2.2.1 hR6 hF7 (fun e => by have := (Lab.a.inj e).2; omega) (fun e => by have := (Lab.a.inj e).2; omega), fun e => ?_, fun e => ?_⟩
      · rcases hT with ⟨_, x, y, hd, hvv⟩ | ⟨e1, _⟩
        · have e2 : k1 - (i + 1) = m := by have := HM.out; omega
          rw [e2, ← HGO.out, hd, hvv]; rfl
        · rw [e1] at e; cases e
      · rcases hT with ⟨e1, _⟩ | ⟨_, hl⟩
        · rw [e1] at e; cases e
        · rw [← HGO.out, goV_none hl]
    clear hcall hF6 hB6 hrow6 hR6 hS6 hT hrow7 hF7 HB HRW
    go_wp2_with (at_builtin; refine wpList_append_run rfl _ _ 180 rfl _ _ _ _ rfl rfl hrun ?_)
    refine ⟨rfl, rfl, ⟨rfl, rfl, i + 1, ok2, _, _, by omega, rfl, rfl, ?_, HI'⟩, ?_⟩
    · show Value.int .i64 _ = _
      go_num
    · show k1 - (intOf (Value.int .i64 _)).toNat < k1 - (intOf (F 7)).toNat
      rw [H7.out]
      simp [intOf]; omega
end Go.Proofs.Qxb6500787aGreat
