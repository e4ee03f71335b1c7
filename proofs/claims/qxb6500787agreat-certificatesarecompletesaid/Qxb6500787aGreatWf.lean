
import Derived.Test.Qxb6500787aGreatUk
import Derived.StillTailTactics
import Derived.Deep.QuietTactic
import Derived.BigQuiet
import Derived.Deep.RegionHeld
import Derived.Deep.CutRange
import Derived.Laws.ResultCell
import Derived.Laws.Rows
import Derived.DeepKeys
import Derived.DataBytes
import Derived.Laws.StructEq
import Derived.Laws.AppendOwn
import Derived.Laws.MakeOwn
import Derived.Lib.AppendStr
set_option linter.unusedSimpArgs false
set_option linter.unusedVariables false
namespace Go.Proofs.Qxb6500787aGreat
open Go.RowKit Go.Blk
attribute [local go_sem ↓] execOp_load execOp_store execOp_alloc
attribute [local go_sem] Tryz.ld26 Tryz.st26 Tryz.ld27 Tryz.st27 Tryz.ld28 Tryz.st28 Tryz.ld3 Tryz.st3 Tryz.ld29 Tryz.st29 Tryz.ld44 Tryz.st44 Tryz.ld4 Tryz.st4 Tryz.ld50 Tryz.st50 Tryz.ld32 Tryz.st32 Tryz.ld49 Tryz.st49 Tryz.ld68 Tryz.st68 Tryz.ld9 Tryz.st9 Tryz.ld40 Tryz.st40 Tryz.ld138 Tryz.st138 Tryz.ld139 Tryz.st139 Tryz.ld146 Tryz.st146 Tryz.ld183 Tryz.st183 Tryz.ld184 Tryz.st184 Tryz.ld192 Tryz.st192 Tryz.ld195 Tryz.st195 Tryz.ld217 Tryz.st217 Tryz.ld159 Tryz.st159 Tryz.ld142 Tryz.st142 Tryz.ld2 Tryz.st2 Tryz.ld5 Tryz.st5 Tryz.ld12 Tryz.st12 Tryz.ld21 Tryz.st21 Tryz.ld22 Tryz.st22 Tryz.ld24 Tryz.st24 Tryz.ld58 Tryz.st58 Tryz.ld97 Tryz.st97 Tryz.ld101 Tryz.st101 Tryz.ld116 Tryz.st116 Tryz.ld121 Tryz.st121 Tryz.ld135 Tryz.st135 Tryz.ld136 Tryz.st136 Tryz.ld143 Tryz.st143 Tryz.ld148 Tryz.st148 Tryz.ld154 Tryz.st154 Tryz.ld173 Tryz.st173 Tryz.ld187 Tryz.st187 Tryz.ld222 Tryz.st222 Tryz.ld241 Tryz.st241 Tryz.ld248 Tryz.st248 Tryz.ld268 Tryz.st268 Tryz.ld272 Tryz.st272 Tryz.ld153 Tryz.st153 Tryz.ld255 Tryz.st255 Tryz.ld256 Tryz.st256 Tryz.ld129 Tryz.st129 Tryz.ld152 Tryz.st152 Tryz.ld31 Tryz.st31 Tryz.ld46 Tryz.st46 Tryz.ld52 Tryz.st52 Tryz.ld54 Tryz.st54 Tryz.ld60 Tryz.st60 Tryz.ld70 Tryz.st70 Tryz.ld74 Tryz.st74 Tryz.ld93 Tryz.st93 Tryz.ld141 Tryz.st141 Tryz.ld151 Tryz.st151 Tryz.ld170 Tryz.st170 Tryz.ld186 Tryz.st186 Tryz.ld189 Tryz.st189 Tryz.ld194 Tryz.st194 Tryz.ld197 Tryz.st197 Tryz.ld219 Tryz.st219 Tryz.ld224 Tryz.st224 Tryz.ld230 Tryz.st230 Tryz.ld235 Tryz.st235 Tryz.ld243 Tryz.st243 Tryz.ld247 Tryz.st247 Tryz.ld252 Tryz.st252 Tryz.ld258 Tryz.st258 Tryz.al153 Tryz.al255 Tryz.al256 Tryz.al129 Tryz.al152 Tryz.al31 Tryz.al46 Tryz.al52 Tryz.al54 Tryz.al60 Tryz.al70 Tryz.al74 Tryz.al93 Tryz.al141 Tryz.al151 Tryz.al170 Tryz.al186 Tryz.al189 Tryz.al194 Tryz.al197 Tryz.al219 Tryz.al224 Tryz.al230 Tryz.al235 Tryz.al243 Tryz.al247 Tryz.al252 Tryz.al258
attribute [local go_sem] Request.length_enc Request.ok_enc Request.all_get Request.all_set Request.kind_get Request.kind_set Request.blob_get Request.blob_set Request.items_get Request.items_set Request.pred_get Request.pred_set Request.slots_get Request.slots_set Trace.length_enc Trace.ok_enc Trace.all_get Trace.all_set Trace.op_get Trace.op_set Trace.calls_get Trace.calls_set Item.length_enc Item.ok_enc Item.all_get Item.all_set Item.del_get Item.del_set Item.pred_get Item.pred_set Item.args_get Item.args_set Reply.length_enc Reply.ok_enc Reply.all_get Reply.all_set Reply.code_get Reply.code_set Reply.kind_get Reply.kind_set Reply.index_get Reply.index_set Reply.yes_get Reply.yes_set Reply.preds_get Reply.preds_set Reply.rules_get Reply.rules_set Reply.arity_get Reply.arity_set Reply.rows_get Reply.rows_set Reply.fact_get Reply.fact_set Reply.fact_del_get Reply.fact_del_set Reply.fact_pred_get Reply.fact_pred_set Reply.fact_args_get Reply.fact_args_set GEntry.length_enc GEntry.ok_enc GEntry.all_get GEntry.all_set GEntry.seq_get GEntry.seq_set GEntry.kind_get GEntry.kind_set GEntry.code_get GEntry.code_set GOp.length_enc GOp.ok_enc GOp.all_get GOp.all_set GOp.kind_get GOp.kind_set GOp.raw_get GOp.raw_set Reader.length_enc Reader.ok_enc Reader.all_get Reader.all_set Reader.buf_get Reader.buf_set Reader.at__get Reader.at__set Slot.length_enc Slot.ok_enc Slot.all_get Slot.all_set Slot.bound_get Slot.bound_set Slot.name_get Slot.name_set Session.length_enc Session.ok_enc Session.all_get Session.all_set Session.svc_get Session.svc_set Session.buf_get Session.buf_set Session.closed_get Session.closed_set GProgram.length_enc GProgram.ok_enc GProgram.all_get GProgram.all_set GProgram.pool_get GProgram.pool_set GProgram.preds_get GProgram.preds_set GProgram.rules_get GProgram.rules_set GProgram.strata_get GProgram.strata_set PredInfo.length_enc PredInfo.ok_enc PredInfo.all_get PredInfo.all_set PredInfo.arity_get PredInfo.arity_set PredInfo.base_get PredInfo.base_set PredInfo.stratum_get PredInfo.stratum_set Change.length_enc Change.ok_enc Change.all_get Change.all_set Change.del_get Change.del_set Change.pred_get Change.pred_set Change.t_get Change.t_set Store.length_enc Store.ok_enc Store.all_get Store.all_set Store.names_get Store.names_set Store.arity_get Store.arity_set Store.rows_get Store.rows_set Src.length_enc Src.ok_enc Src.all_get Src.all_set Src.b_get Src.b_set Src.at__get Src.at__set Atom.length_enc Atom.ok_enc Atom.all_get Atom.all_set Atom.pred_get Atom.pred_set Atom.args_get Atom.args_set GRule.length_enc GRule.ok_enc GRule.all_get GRule.all_set GRule.head_get GRule.head_set GRule.body_get GRule.body_set GRule.head_pred_get GRule.head_pred_set GRule.head_args_get GRule.head_args_set Cert.length_enc Cert.ok_enc Cert.all_get Cert.all_set Cert.names_get Cert.names_set Cert.nodes_get Cert.nodes_set Fact.length_enc Fact.ok_enc Fact.all_get Fact.all_set Fact.pred_get Fact.pred_set Fact.t_get Fact.t_set Literal.length_enc Literal.ok_enc Literal.all_get Literal.all_set Literal.neg_get Literal.neg_set Literal.atom_get Literal.atom_set Literal.atom_pred_get Literal.atom_pred_set Literal.atom_args_get Literal.atom_args_set Engine.length_enc Engine.ok_enc Engine.all_get Engine.all_set Engine.prog_get Engine.prog_set Engine.st_get Engine.st_set SrcCertm.length_enc SrcCertm.ok_enc SrcCertm.all_get SrcCertm.all_set SrcCertm.b_get SrcCertm.b_set SrcCertm.at__get SrcCertm.at__set GNode.length_enc GNode.ok_enc GNode.all_get GNode.all_set GNode.rule_get GNode.rule_set GNode.pred_get GNode.pred_set GNode.vals_get GNode.vals_set GNode.refs_get GNode.refs_set Term.length_enc Term.ok_enc Term.all_get Term.all_set Term.var_get Term.var_set Term.n_get Term.n_set Env.length_enc Env.ok_enc Env.all_get Env.all_set Env.val_get Env.val_set Env.set_get Env.set_set
attribute [local go_sem] size_put size_ext blk_put free_put blk_alloc free_alloc blk_drew free_drew blk_ext free_ext lookOr_some putOr_some segAt_some cellAt_some storeIn_some put_put put_alloc_new length_arr ok_arr_u8 ok_arr_u32 ok_arr_u64 ok_arr_i64 ok_arr_sl cellsV_agg cellsV_int cellsV_bool cellsV_string cellsV_pointer cellsV_slice cellsV_sl ok_int ok_bool ok_string ok_pointer ok_slice ok_sl toList_arr seg_arr set_arr nth_splice nth_splice0 seg_splice seg_splice0 splice_splice splice_splice0 length_splice_if
attribute [local go_sem ↓] execOp_box
attribute [local go_sem] box_run nth_arr_u8 put_arr_u8 blk_drewN free_drewN put_drewN blk_raw free_raw
/-- What a decoded image is like. -/
theorem bitD_tail {ys : List UInt8} (h : (bitD ys).1 = 0) : ∃ x, ys = x :: (bitD ys).2.2 := by
  cases ys with
  | nil => cases h
  | cons x r =>
    rw [bitD_cons] at h ⊢
    by_cases e : 1 < x.toNat
    · rw [if_pos e] at h; cases h
    · rw [if_neg e]; exact ⟨x, rfl⟩
theorem goT_lens : ∀ {m : Nat} {acc : List Term} {ys : List UInt8}, (goT m acc ys).1 = 0 → (goT m acc ys).2.1.length = acc.length + m
  | 0, acc, ys, _ => rfl
  | m + 1, acc, ys, h => by
    by_cases e : (bitD ys).1 = 0
    · cases e2 : (bitD ys).2.2 with
      | nil => rw [goT_end e e2] at h; cases h
      | cons x r =>
        rw [goT_ok e e2] at h ⊢
        rw [goT_lens h, List.length_append]; simp; omega
    · rw [goT_bad e] at h; exact absurd h e
theorem goT_nn : ∀ {m : Nat} {acc : List Term} {ys : List UInt8}, (goT m acc ys).1 = 0 → (∀ t ∈ acc, 0 ≤ t.n) → ∀ t ∈ (goT m acc ys).2.1, 0 ≤ t.n
  | 0, acc, ys, _, ha => ha
  | m + 1, acc, ys, h, ha => by
    by_cases e : (bitD ys).1 = 0
    · cases e2 : (bitD ys).2.2 with
      | nil => rw [goT_end e e2] at h; cases h
      | cons x r =>
        rw [goT_ok e e2] at h ⊢
        refine goT_nn h (fun t ht => ?_)
        rcases List.mem_append.1 ht with h1 | h1
        · exact ha t h1
        · rw [List.mem_singleton.1 h1]; show (0 : Int) ≤ ((x.toNat : Nat) : Int); omega
    · rw [goT_bad e] at h; exact absurd h e
def AtW (a : PA) : Prop := a.args.length ≤ 255 ∧ ∀ t ∈ a.args, 0 ≤ t.n
theorem atomD_lens {ys : List UInt8} (h : (atomD ys).1 = 0) : AtW (atomD ys).2.1 := by
  match ys, h with
  | [], h => cases h
  | [_], h => cases h
  | p :: k :: r, h =>
    rw [atomD_cons] at h ⊢
    have := k.toNat_lt
    refine ⟨?_, goT_nn h (fun t ht => by cases ht)⟩
    show (goT k.toNat [] r).2.1.length ≤ 255
    rw [goT_lens h]; simp; omega
theorem goLt_lens : ∀ {m : Nat} {acc : List PL} {ys : List UInt8}, (goLt m acc ys).1 = 0 → (∀ l ∈ acc, AtW l.atom) → (goLt m acc ys).2.1.length = acc.length + m ∧ ∀ l ∈ (goLt m acc ys).2.1, AtW l.atom
  | 0, acc, ys, _, ha => ⟨rfl, ha⟩
  | m + 1, acc, ys, h, ha => by
    by_cases e : (bitD ys).1 = 0
    · by_cases e2 : (atomD (bitD ys).2.2).1 = 0
      · rw [goLt_ok e e2] at h ⊢
        obtain ⟨h1, h2⟩ := goLt_lens h (fun l hl => by
          rcases List.mem_append.1 hl with h3 | h3
          · exact ha l h3
          · rw [List.mem_singleton.1 h3]; exact atomD_lens e2)
        refine ⟨?_, h2⟩
        rw [h1, List.length_append]; simp; omega
      · rw [goLt_bad2 e e2] at h; exact absurd h e2
    · rw [goLt_bad e] at h; exact absurd h e
def RlW (r : PR) : Prop := AtW r.head ∧ r.body.length ≤ 255 ∧ ∀ l ∈ r.body, AtW l.atom
theorem RlW.lens {r : PR} (h : RlW r) : Lens r := ⟨by have := h.1.1; omega, by have := h.2.1; omega, fun l hl => by have := (h.2.2 l hl).1; omega⟩
theorem ruleD_lens {ys : List UInt8} (h : (ruleD ys).1 = 0) : RlW (ruleD ys).2.1 := by
  by_cases e : (atomD ys).1 = 0
  · cases e2 : (atomD ys).2.2 with
    | nil => rw [ruleD_end e e2] at h; cases h
    | cons k r =>
      rw [ruleD_ok e e2] at h ⊢
      obtain ⟨h1, h2⟩ := goLt_lens h (fun l hl => by cases hl)
      have := k.toNat_lt
      refine ⟨atomD_lens e, ?_, h2⟩
      show (goLt k.toNat [] r).2.1.length ≤ 255
      rw [h1]; simp; omega
  · rw [ruleD_bad e] at h; exact absurd h e
theorem goR_lens : ∀ {m : Nat} {acc : List PR} {ys : List UInt8}, (goR m acc ys).1 = 0 → (∀ r ∈ acc, RlW r) → (goR m acc ys).2.1.length = acc.length + m ∧ ∀ r ∈ (goR m acc ys).2.1, RlW r
  | 0, acc, ys, _, ha => ⟨rfl, ha⟩
  | m + 1, acc, ys, h, ha => by
    rw [goR_succ] at h ⊢
    by_cases e : (ruleD ys).1 = 0
    · rw [if_neg (fun h9 => h9 e)] at h ⊢
      obtain ⟨h1, h2⟩ := goR_lens h (fun l hl => by
        rcases List.mem_append.1 hl with h3 | h3
        · exact ha l h3
        · rw [List.mem_singleton.1 h3]; exact ruleD_lens e)
      refine ⟨?_, h2⟩
      rw [h1, List.length_append]; simp; omega
    · rw [if_pos e] at h; exact absurd h e
theorem goD_lens : ∀ {m : Nat} {acc : List PredInfo} {ys : List UInt8}, (goD m acc ys).1 = 0 → (∀ y ∈ acc, y.stratum = 0 ∧ 0 ≤ y.arity) → (goD m acc ys).2.1.length = acc.length + m ∧ ∀ y ∈ (goD m acc ys).2.1, y.stratum = 0 ∧ 0 ≤ y.arity
  | 0, acc, ys, _, ha => ⟨rfl, ha⟩
  | m + 1, acc, [], h, _ => by cases h
  | m + 1, acc, x :: r, h, ha => by
    rw [goD_cons] at h ⊢
    by_cases e : (bitD r).1 = 0
    · rw [if_neg (fun h9 => h9 e)] at h ⊢
      obtain ⟨h1, h2⟩ := goD_lens h (fun l hl => by
        rcases List.mem_append.1 hl with h3 | h3
        · exact ha l h3
        · rw [List.mem_singleton.1 h3]; exact ⟨rfl, by show (0 : Int) ≤ ((x.toNat : Nat) : Int); omega⟩)
      refine ⟨?_, h2⟩
      rw [h1, List.length_append]; simp; omega
    · rw [if_pos e] at h; exact absurd h e
def NmOk (L : List (List UInt8)) : Prop := L.Nodup ∧ ∀ x ∈ L, x.length ≤ 64
theorem goP_ok : ∀ {m : Nat} {acc : List (List UInt8)} {ys : List UInt8}, (goP m acc ys).1 = 0 → NmOk acc → NmOk (goP m acc ys).2.1
  | 0, acc, ys, _, ha => ha
  | m + 1, acc, [], h, _ => by cases h
  | m + 1, acc, x :: r, h, ha => by
    rw [goP_cons] at h ⊢
    by_cases e : 64 < x.toNat
    · rw [if_pos e] at h; cases h
    · rw [if_neg e] at h ⊢
      by_cases e2 : r.length < x.toNat
      · rw [if_pos e2] at h; cases h
      · rw [if_neg e2] at h ⊢
        by_cases e3 : r.take x.toNat ∈ acc
        · rw [if_pos e3] at h; cases h
        · rw [if_neg e3] at h ⊢
          refine goP_ok h ⟨?_, fun y hy => ?_⟩
          · rw [List.nodup_append]
            exact ⟨ha.1, by simp, fun a h1 b h2 => by rw [List.mem_singleton.1 h2]; intro h9; exact e3 (h9 ▸ h1)⟩
          · rcases List.mem_append.1 hy with h1 | h1
            · exact ha.2 y h1
            · rw [List.mem_singleton.1 h1, List.length_take]; omega
theorem poolD_ok {ys : List UInt8} (h : (poolD ys).1 = 0) : NmOk (poolD ys).2.1 := by
  match ys, h with
  | [], h => cases h
  | [_], h => cases h
  | a :: b :: r, h => exact goP_ok h ⟨List.nodup_nil, fun x hx => by cases hx⟩
/-- A decoded program. -/
structure DecOk (p : PP) : Prop where
  pool : NmOk p.pool
  preds : p.preds.length ≤ 255 ∧ ∀ y ∈ p.preds, y.stratum = 0 ∧ 0 ≤ y.arity
  rules : p.rules.length ≤ 255 ∧ ∀ r ∈ p.rules, RlW r
  strata : p.strata = 0
theorem decRu_ok {pl : List (List UInt8)} {ds : List PredInfo} {ys : List UInt8} (h : (decRu pl ds ys).1 = 0) : (decRu pl ds ys).2.pool = pl ∧ (decRu pl ds ys).2.preds = ds ∧ (decRu pl ds ys).2.strata = 0 ∧ (decRu pl ds ys).2.rules.length ≤ 255 ∧ ∀ r ∈ (decRu pl ds ys).2.rules, RlW r := by
  cases ys with
  | nil => cases h
  | cons k r =>
    simp only [decRu] at h ⊢
    by_cases e : (goR k.toNat [] r).1 = 0
    · rw [if_neg (fun h9 => h9 e)] at h ⊢
      by_cases e2 : (goR k.toNat [] r).2.2 = []
      · rw [if_neg (fun h9 => h9 e2)] at h ⊢
        obtain ⟨h1, h2⟩ := goR_lens e (fun l hl => by cases hl)
        have := k.toNat_lt
        exact ⟨rfl, rfl, rfl, by show (goR k.toNat [] r).2.1.length ≤ 255; rw [h1]; simp; omega, h2⟩
      · rw [if_pos e2] at h; cases h
    · rw [if_pos e] at h; exact absurd h e
theorem decP_ok {xs : List UInt8} (h : (decP xs).1 = 0) : DecOk (decP xs).2 := by
  unfold decP at h ⊢
  by_cases e : xs.length < 4 ∨ xs.take 4 ≠ magic
  · rw [if_pos e] at h; cases h
  · rw [if_neg e] at h ⊢
    by_cases e2 : (poolD (xs.drop 4)).1 = 0
    · rw [if_neg (fun h9 => h9 e2)] at h ⊢
      have hp := poolD_ok e2
      generalize (poolD (xs.drop 4)).2.1 = pl at h hp ⊢
      generalize (poolD (xs.drop 4)).2.2 = ys at h ⊢
      cases ys with
      | nil => cases h
      | cons k r =>
        simp only [decPr] at h ⊢
        by_cases e3 : (goD k.toNat [] r).1 = 0
        · rw [if_neg (fun h9 => h9 e3)] at h ⊢
          obtain ⟨h1, h2⟩ := goD_lens e3 (fun l hl => by cases hl)
          obtain ⟨q1, q2, q3, q4, q5⟩ := decRu_ok h
          have := k.toNat_lt
          refine ⟨by rw [q1]; exact hp, ?_, ⟨q4, q5⟩, q3⟩
          rw [q2]
          exact ⟨by rw [h1]; simp; omega, h2⟩
        · rw [if_pos e3] at h; exact absurd h e3
    · rw [if_pos e2] at h; exact absurd h e2
end Go.Proofs.Qxb6500787aGreat
