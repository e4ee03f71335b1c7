import Derived.Test.Qxb6500787aZi
import Derived.Test.Qxb6500787aYb
import Derived.StillTailTactics
import Derived.Deep.QuietTactic
import Derived.BigQuiet
import Derived.Deep.RegionHeld
import Derived.Deep.CutRange
import Derived.Laws.ResultCell
import Derived.Laws.Rows
import Derived.DeepKeys
import Derived.DataBytes
import Derived.Laws.StructEq
import Derived.Laws.AppendOwn
import Derived.Laws.MakeOwn
import Derived.Lib.AppendStr
set_option linter.unusedSimpArgs false
set_option linter.unusedVariables false
namespace Go.Proofs.Qxb6500787a
open Go.RowKit Go.Blk
attribute [local go_sem ↓] execOp_load execOp_store execOp_alloc
attribute [local go_sem] Try.ld26 Try.st26 Try.ld27 Try.st27 Try.ld28 Try.st28 Try.ld3 Try.st3 Try.ld29 Try.st29 Try.ld44 Try.st44 Try.ld4 Try.st4 Try.ld50 Try.st50 Try.ld32 Try.st32 Try.ld49 Try.st49 Try.ld68 Try.st68 Try.ld9 Try.st9 Try.ld40 Try.st40 Try.ld138 Try.st138 Try.ld139 Try.st139 Try.ld146 Try.st146 Try.ld183 Try.st183 Try.ld184 Try.st184 Try.ld192 Try.st192 Try.ld195 Try.st195 Try.ld217 Try.st217 Try.ld159 Try.st159 Try.ld142 Try.st142 Try.ld2 Try.st2 Try.ld5 Try.st5 Try.ld12 Try.st12 Try.ld21 Try.st21 Try.ld22 Try.st22 Try.ld24 Try.st24 Try.ld58 Try.st58 Try.ld63 Try.st63 Try.ld97 Try.st97 Try.ld101 Try.st101 Try.ld116 Try.st116 Try.ld121 Try.st121 Try.ld135 Try.st135 Try.ld136 Try.st136 Try.ld143 Try.st143 Try.ld148 Try.st148 Try.ld154 Try.st154 Try.ld173 Try.st173 Try.ld187 Try.st187 Try.ld222 Try.st222 Try.ld241 Try.st241 Try.ld248 Try.st248 Try.ld268 Try.st268 Try.ld272 Try.st272 Try.ld153 Try.st153 Try.ld255 Try.st255 Try.ld256 Try.st256 Try.ld129 Try.st129 Try.ld152 Try.st152 Try.ld31 Try.st31 Try.ld46 Try.st46 Try.ld52 Try.st52 Try.ld54 Try.st54 Try.ld60 Try.st60 Try.ld70 Try.st70 Try.ld74 Try.st74 Try.ld93 Try.st93 Try.ld119 Try.st119 Try.ld141 Try.st141 Try.ld151 Try.st151 Try.ld170 Try.st170 Try.ld186 Try.st186 Try.ld189 Try.st189 Try.ld194 Try.st194 Try.ld197 Try.st197 Try.ld219 Try.st219 Try.ld224 Try.st224 Try.ld230 Try.st230 Try.ld235 Try.st235 Try.ld243 Try.st243 Try.ld247 Try.st247 Try.ld252 Try.st252 Try.ld258 Try.st258 Try.al153 Try.al255 Try.al256 Try.al129 Try.al152 Try.al31 Try.al46 Try.al52 Try.al54 Try.al60 Try.al70 Try.al74 Try.al93 Try.al119 Try.al141 Try.al151 Try.al170 Try.al186 Try.al189 Try.al194 Try.al197 Try.al219 Try.al224 Try.al230 Try.al235 Try.al243 Try.al247 Try.al252 Try.al258
attribute [local go_sem] Request.length_enc Request.ok_enc Request.all_get Request.all_set Request.kind_get Request.kind_set Request.blob_get Request.blob_set Request.items_get Request.items_set Request.pred_get Request.pred_set Request.slots_get Request.slots_set Trace.length_enc Trace.ok_enc Trace.all_get Trace.all_set Trace.op_get Trace.op_set Trace.calls_get Trace.calls_set Item.length_enc Item.ok_enc Item.all_get Item.all_set Item.del_get Item.del_set Item.pred_get Item.pred_set Item.args_get Item.args_set Reply.length_enc Reply.ok_enc Reply.all_get Reply.all_set Reply.code_get Reply.code_set Reply.kind_get Reply.kind_set Reply.index_get Reply.index_set Reply.yes_get Reply.yes_set Reply.preds_get Reply.preds_set Reply.rules_get Reply.rules_set Reply.arity_get Reply.arity_set Reply.rows_get Reply.rows_set Reply.fact_get Reply.fact_set Reply.fact_del_get Reply.fact_del_set Reply.fact_pred_get Reply.fact_pred_set Reply.fact_args_get Reply.fact_args_set GEntry.length_enc GEntry.ok_enc GEntry.all_get GEntry.all_set GEntry.seq_get GEntry.seq_set GEntry.kind_get GEntry.kind_set GEntry.code_get GEntry.code_set GOp.length_enc GOp.ok_enc GOp.all_get GOp.all_set GOp.kind_get GOp.kind_set GOp.raw_get GOp.raw_set Reader.length_enc Reader.ok_enc Reader.all_get Reader.all_set Reader.buf_get Reader.buf_set Reader.at__get Reader.at__set Slot.length_enc Slot.ok_enc Slot.all_get Slot.all_set Slot.bound_get Slot.bound_set Slot.name_get Slot.name_set Session.length_enc Session.ok_enc Session.all_get Session.all_set Session.svc_get Session.svc_set Session.buf_get Session.buf_set Session.closed_get Session.closed_set GProgram.length_enc GProgram.ok_enc GProgram.all_get GProgram.all_set GProgram.pool_get GProgram.pool_set GProgram.preds_get GProgram.preds_set GProgram.rules_get GProgram.rules_set GProgram.strata_get GProgram.strata_set PredInfo.length_enc PredInfo.ok_enc PredInfo.all_get PredInfo.all_set PredInfo.arity_get PredInfo.arity_set PredInfo.base_get PredInfo.base_set PredInfo.stratum_get PredInfo.stratum_set Change.length_enc Change.ok_enc Change.all_get Change.all_set Change.del_get Change.del_set Change.pred_get Change.pred_set Change.t_get Change.t_set Store.length_enc Store.ok_enc Store.all_get Store.all_set Store.names_get Store.names_set Store.arity_get Store.arity_set Store.rows_get Store.rows_set Src.length_enc Src.ok_enc Src.all_get Src.all_set Src.b_get Src.b_set Src.at__get Src.at__set Atom.length_enc Atom.ok_enc Atom.all_get Atom.all_set Atom.pred_get Atom.pred_set Atom.args_get Atom.args_set GRule.length_enc GRule.ok_enc GRule.all_get GRule.all_set GRule.head_get GRule.head_set GRule.body_get GRule.body_set GRule.head_pred_get GRule.head_pred_set GRule.head_args_get GRule.head_args_set Cert.length_enc Cert.ok_enc Cert.all_get Cert.all_set Cert.names_get Cert.names_set Cert.nodes_get Cert.nodes_set Fact.length_enc Fact.ok_enc Fact.all_get Fact.all_set Fact.pred_get Fact.pred_set Fact.t_get Fact.t_set Literal.length_enc Literal.ok_enc Literal.all_get Literal.all_set Literal.neg_get Literal.neg_set Literal.atom_get Literal.atom_set Literal.atom_pred_get Literal.atom_pred_set Literal.atom_args_get Literal.atom_args_set Engine.length_enc Engine.ok_enc Engine.all_get Engine.all_set Engine.prog_get Engine.prog_set Engine.st_get Engine.st_set SrcCertm.length_enc SrcCertm.ok_enc SrcCertm.all_get SrcCertm.all_set SrcCertm.b_get SrcCertm.b_set SrcCertm.at__get SrcCertm.at__set GNode.length_enc GNode.ok_enc GNode.all_get GNode.all_set GNode.rule_get GNode.rule_set GNode.pred_get GNode.pred_set GNode.vals_get GNode.vals_set GNode.refs_get GNode.refs_set Term.length_enc Term.ok_enc Term.all_get Term.all_set Term.var_get Term.var_set Term.n_get Term.n_set Env.length_enc Env.ok_enc Env.all_get Env.all_set Env.val_get Env.val_set Env.set_get Env.set_set
attribute [local go_sem] size_put size_ext blk_put free_put blk_alloc free_alloc blk_drew free_drew blk_ext free_ext lookOr_some putOr_some segAt_some cellAt_some storeIn_some put_put put_alloc_new length_arr ok_arr_u8 ok_arr_u32 ok_arr_u64 ok_arr_i64 ok_arr_sl cellsV_agg cellsV_int cellsV_bool cellsV_string cellsV_pointer cellsV_slice cellsV_sl ok_int ok_bool ok_string ok_pointer ok_slice ok_sl toList_arr seg_arr set_arr nth_splice nth_splice0 seg_splice seg_splice0 splice_splice splice_splice0 length_splice_if
attribute [local go_sem ↓] execOp_box
attribute [local go_sem] box_run nth_arr_u8 put_arr_u8 blk_drewN free_drewN put_drewN blk_raw free_raw
theorem svR.k0 {s s' : Sv} (hI : ∀ t, s.inst = some t → InG t) {raw : List UInt8} (hr : raw.length ≤ 65536) {q : PRep} (h : svR s raw q s') (hz : q.code = 0) : q.kind ≠ 0 := by
  obtain ⟨s1, h, -⟩ := h
  rcases h with ⟨h0, rfl, -⟩ | ⟨h0, h⟩
  · exact absurd hz h0
  · have hw := decF_wf hr h0
    rcases dsR.k (s := s.clr) hw (fun t ht => hI t ht) h with ⟨-, -, rfl, -⟩ | h
    · exact absurd (show (10 : Int) = 0 from hz) (by decide)
    · rw [h.kind]; have := hw.kind; omega
theorem cntF_at (r : Nat → Int) {kd cd : Nat} (hk : kd < 8) (hc : cd < 43) (k : Nat) : cntF r kd cd k = r k + (if k = 197 then 1 else 0) + (if k = 201 + kd then 1 else 0) + (if k = 209 + cd then 1 else 0) + (if k = cntW kd cd then 1 else 0) := by
  obtain ⟨w, hw⟩ : ∃ w, w = cntW kd cd := ⟨_, rfl⟩
  have hw' : w = 198 ∨ w = 199 ∨ w = 200 := by
    rw [hw]; unfold cntW
    split
    · omega
    · split <;> omega
  unfold cntF
  rw [← hw]
  clear hw
  unfold cnt1
  simp only [upR]
  by_cases h1 : k = 197
  · subst h1
    rw [if_neg (by omega), if_neg (by omega), if_neg (by omega), if_pos rfl, if_pos rfl, if_neg (by omega), if_neg (by omega), if_neg (by omega)]; omega
  · by_cases h2 : k = 201 + kd
    · subst h2
      rw [if_neg (by omega), if_neg (by omega), if_pos rfl, if_neg (by omega), if_neg (by omega), if_pos rfl, if_neg (by omega), if_neg (by omega)]; omega
    · by_cases h3 : k = 209 + cd
      · subst h3
        rw [if_neg (by omega), if_pos rfl, if_neg (by omega), if_neg (by omega), if_neg (by omega), if_neg (by omega), if_pos rfl, if_neg (by omega)]; omega
      · by_cases h4 : k = w
        · subst h4
          rw [if_pos rfl, if_neg (by omega), if_neg (by omega), if_neg (by omega), if_neg (by omega), if_neg (by omega), if_neg (by omega), if_pos rfl]; omega
        · rw [if_neg h4, if_neg h3, if_neg h2, if_neg h1, if_neg h1, if_neg h2, if_neg h3, if_neg h4]; omega
theorem filR_hi (r : Nat → Int) (kind code : Int) {k : Nat} (h : 197 ≤ k) : filR r kind code k = cntF r kind.toNat code.toNat k := by
  unfold filR trF
  have h1 : (cntF r kind.toNat code.toNat 196).toNat % 64 < 64 := Nat.mod_lt _ (by omega)
  rw [if_neg (by omega), if_neg (by omega), if_neg (by omega), if_neg (by omega)]
/-- The tallies are right. -/
structure Tal (s : Sv) : Prop where
  sum : s.rst 197 = s.rst 200 + s.rst 199 + s.rst 198
  seen : s.rst 197 = s.rst 196
  mal : s.rst 198 = s.rst 201
  ok : s.rst 200 = s.rst 209
  non : s.inst = none → s.rst 202 = s.rst 199 - s.rst 219
theorem Tal.zero : Tal Sv.zero := ⟨rfl, rfl, rfl, rfl, fun _ => rfl⟩
theorem svR.tal {s s' : Sv} {m : Int} (hI : SvI m s) {raw : List UInt8} (hr : raw.length ≤ 65536) {q : PRep} (h : svR s raw q s') (hT : Tal s) : Tal s' := by
  have h196 := h.n196
  have hnp := npl_of hI hr h
  have hk0 := h.k0 hI.ins hr
  obtain ⟨s1, h, e⟩ := h
  obtain ⟨hk, hc, -⟩ := svR.k (s' := s) hI.ins hr h
  have hrst : ∀ k, k ≠ 252 → s1.rst k = s.rst k := by
    intro k hk
    rcases h with ⟨-, -, rfl⟩ | ⟨-, h⟩
    · rfl
    · obtain ⟨co, -, e⟩ := h.rsu
      rw [e]; unfold upR; rw [if_neg hk]; rfl
  obtain ⟨kd, hkd⟩ : ∃ kd, kd = q.kind.toNat := ⟨_, rfl⟩
  obtain ⟨cd, hcd⟩ : ∃ cd, cd = q.code.toNat := ⟨_, rfl⟩
  have hcell : ∀ k, 197 ≤ k → k ≠ 252 → s'.rst k = s.rst k + (if k = 197 then 1 else 0) + (if k = 201 + kd then 1 else 0) + (if k = 209 + cd then 1 else 0) + (if k = cntW kd cd then 1 else 0) := fun k h1 h2 => by
    rw [e]
    show filR s1.rst q.kind q.code k = _
    rw [filR_hi _ _ _ h1, ← hkd, ← hcd, cntF_at _ (by omega) (by omega), hrst k h2]
  have e197 := hcell 197 (by omega) (by omega)
  have e198 := hcell 198 (by omega) (by omega)
  have e199 := hcell 199 (by omega) (by omega)
  have e200 := hcell 200 (by omega) (by omega)
  have e201 := hcell 201 (by omega) (by omega)
  have e202 := hcell 202 (by omega) (by omega)
  have e209 := hcell 209 (by omega) (by omega)
  have e219 := hcell 219 (by omega) (by omega)
  rw [if_pos rfl, if_neg (by omega), if_neg (by omega), if_neg (by unfold cntW; split; omega; split <;> omega)] at e197
  rw [if_neg (by omega), if_neg (by omega), if_neg (by omega)] at e198 e199 e200
  rw [if_neg (by omega), if_neg (show ¬ 201 = 209 + cd by omega), if_neg (show ¬ 201 = cntW kd cd by unfold cntW; split; omega; split <;> omega)] at e201
  rw [if_neg (by omega), if_neg (show ¬ 202 = 209 + cd by omega), if_neg (show ¬ 202 = cntW kd cd by unfold cntW; split; omega; split <;> omega)] at e202
  rw [if_neg (by omega), if_neg (show ¬ 209 = 201 + kd by omega), if_neg (show ¬ 209 = cntW kd cd by unfold cntW; split; omega; split <;> omega)] at e209
  rw [if_neg (by omega), if_neg (show ¬ 219 = 201 + kd by omega), if_neg (show ¬ 219 = cntW kd cd by unfold cntW; split; omega; split <;> omega)] at e219
  have t1 := hT.sum
  have t2 := hT.seen
  have t3 := hT.mal
  have t4 := hT.ok
  have hW : (cd = 0 ∧ cntW kd cd = 200) ∨ (cd ≠ 0 ∧ kd = 0 ∧ cntW kd cd = 198) ∨ (cd ≠ 0 ∧ kd ≠ 0 ∧ cntW kd cd = 199) := by
    unfold cntW
    by_cases h1 : cd = 0
    · rw [if_pos h1]; exact .inl ⟨h1, rfl⟩
    · rw [if_neg h1]
      by_cases h2 : kd = 0
      · rw [if_pos h2]; exact .inr (.inl ⟨h1, h2, rfl⟩)
      · rw [if_neg h2]; exact .inr (.inr ⟨h1, h2, rfl⟩)
  have hk0' : cd = 0 → kd ≠ 0 := fun h1 h2 => hk0 (by omega) (by omega)
  have hnone : s'.inst = none → s.inst = none ∧ ((cd ≠ 10 ∧ cd ≠ 0 ∧ (kd = 0 ∨ kd = 1)) ∨ (cd = 10 ∧ kd ≠ 0 ∧ kd ≠ 1)) := fun hn => by
    have hs0 : s.inst = none := by
      cases hx : s.inst with
      | none => rfl
      | some t =>
        have := hnp.on (by rw [hx]; rfl)
        rw [hn] at this; cases this
    refine ⟨hs0, ?_⟩
    have hs0' : s.inst.isSome = false := by rw [hs0]; rfl
    rcases h with ⟨h0, hq, -⟩ | ⟨h0, h⟩
    · left
      have h10 := hnp.late (.inl h0)
      have hkz : q.kind = 0 := by rw [hq]; rfl
      have hcz : q.code = (decF raw).1 := by rw [hq]; rfl
      refine ⟨by omega, by omega, .inl (by omega)⟩
    · have hw := decF_wf hr h0
      by_cases h1 : (decF raw).2.kind = 1
      · left
        have h10 := hnp.late (.inr (.inl h1))
        have hld := hnp.ld h0 h1
        rw [hn, hs0'] at hld
        have hcz : q.code ≠ 0 := fun hz => by rw [hz] at hld; exact absurd hld (by decide)
        have hkk : q.kind = 1 := by
          rcases dsR.k (s := s.clr) hw (fun t ht => hI.ins t ht) h with ⟨-, h9, -, -⟩ | h9
          · exact absurd h1 h9
          · rw [h9.kind]; exact h1
        exact ⟨by omega, by omega, .inr (by omega)⟩
      · right
        obtain ⟨hq, -⟩ := hnp.early hs0' h0 h1
        have hkk : q.kind = (decF raw).2.kind := by rw [hq]; rfl
        have hcc : q.code = 10 := by rw [hq]; rfl
        have := hw.kind
        exact ⟨by omega, by omega, by omega⟩
  refine ⟨?_, ?_, ?_, ?_, fun hn => ?_⟩
  · rcases hW with ⟨-, hw⟩ | ⟨-, -, hw⟩ | ⟨-, -, hw⟩ <;> (rw [hw] at e198 e199 e200; simp at e198 e199 e200; omega)
  · omega
  · rcases hW with ⟨hz, hw⟩ | ⟨hz, hz2, hw⟩ | ⟨hz, hz2, hw⟩
    · have := hk0' hz
      rw [hw] at e198
      rw [if_neg (by omega)] at e201 e198
      omega
    · rw [hw, if_pos rfl] at e198
      rw [if_pos (by omega)] at e201
      omega
    · rw [hw, if_neg (by omega)] at e198
      rw [if_neg (by omega)] at e201
      omega
  · rcases hW with ⟨hz, hw⟩ | ⟨hz, hz2, hw⟩ | ⟨hz, hz2, hw⟩
    · rw [hw, if_pos rfl] at e200
      rw [if_pos (by omega)] at e209
      omega
    · rw [hw, if_neg (by omega)] at e200
      rw [if_neg (by omega)] at e209
      omega
    · rw [hw, if_neg (by omega)] at e200
      rw [if_neg (by omega)] at e209
      omega
  · obtain ⟨hs0, hcase⟩ := hnone hn
    have t5 := hT.non hs0
    rcases hcase with ⟨c1, c2, hkk⟩ | ⟨c1, c2, c3⟩
    · rw [if_neg (by omega)] at e219
      rcases hkk with hkk | hkk
      · have hw : cntW kd cd = 198 := by unfold cntW; rw [if_neg c2, if_pos hkk]
        rw [hw, if_neg (by omega)] at e199
        rw [if_neg (by omega)] at e202
        omega
      · have hw : cntW kd cd = 199 := by unfold cntW; rw [if_neg c2, if_neg (by omega)]
        rw [hw, if_pos rfl] at e199
        rw [if_pos (by omega)] at e202
        omega
    · rw [if_pos (by omega)] at e219
      have hw : cntW kd cd = 199 := by unfold cntW; rw [if_neg (by omega), if_neg c2]
      rw [hw, if_pos rfl] at e199
      rw [if_neg (by omega)] at e202
      omega
end Go.Proofs.Qxb6500787a
