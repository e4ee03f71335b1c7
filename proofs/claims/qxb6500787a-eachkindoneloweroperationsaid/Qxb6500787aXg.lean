import Derived.Test.Qxb6500787aXf
import Derived.StillTailTactics
import Derived.Deep.QuietTactic
import Derived.BigQuiet
import Derived.Deep.RegionHeld
import Derived.Deep.CutRange
import Derived.Laws.ResultCell
import Derived.Laws.Rows
import Derived.DeepKeys
import Derived.DataBytes
import Derived.Laws.StructEq
import Derived.Laws.AppendOwn
import Derived.Laws.MakeOwn
import Derived.Lib.AppendStr
set_option linter.unusedSimpArgs false
set_option linter.unusedVariables false
namespace Go.Proofs.Qxb6500787a
open Go.RowKit Go.Blk
attribute [local go_sem ↓] execOp_load execOp_store execOp_alloc
attribute [local go_sem] Try.ld26 Try.st26 Try.ld27 Try.st27 Try.ld28 Try.st28 Try.ld3 Try.st3 Try.ld29 Try.st29 Try.ld44 Try.st44 Try.ld4 Try.st4 Try.ld50 Try.st50 Try.ld32 Try.st32 Try.ld49 Try.st49 Try.ld68 Try.st68 Try.ld9 Try.st9 Try.ld40 Try.st40 Try.ld138 Try.st138 Try.ld139 Try.st139 Try.ld146 Try.st146 Try.ld183 Try.st183 Try.ld184 Try.st184 Try.ld192 Try.st192 Try.ld195 Try.st195 Try.ld217 Try.st217 Try.ld159 Try.st159 Try.ld142 Try.st142 Try.ld2 Try.st2 Try.ld5 Try.st5 Try.ld12 Try.st12 Try.ld21 Try.st21 Try.ld22 Try.st22 Try.ld24 Try.st24 Try.ld58 Try.st58 Try.ld63 Try.st63 Try.ld97 Try.st97 Try.ld101 Try.st101 Try.ld116 Try.st116 Try.ld121 Try.st121 Try.ld135 Try.st135 Try.ld136 Try.st136 Try.ld143 Try.st143 Try.ld148 Try.st148 Try.ld154 Try.st154 Try.ld173 Try.st173 Try.ld187 Try.st187 Try.ld222 Try.st222 Try.ld241 Try.st241 Try.ld248 Try.st248 Try.ld268 Try.st268 Try.ld272 Try.st272 Try.ld153 Try.st153 Try.ld255 Try.st255 Try.ld256 Try.st256 Try.ld129 Try.st129 Try.ld152 Try.st152 Try.ld31 Try.st31 Try.ld46 Try.st46 Try.ld52 Try.st52 Try.ld54 Try.st54 Try.ld60 Try.st60 Try.ld70 Try.st70 Try.ld74 Try.st74 Try.ld93 Try.st93 Try.ld119 Try.st119 Try.ld141 Try.st141 Try.ld151 Try.st151 Try.ld170 Try.st170 Try.ld186 Try.st186 Try.ld189 Try.st189 Try.ld194 Try.st194 Try.ld197 Try.st197 Try.ld219 Try.st219 Try.ld224 Try.st224 Try.ld230 Try.st230 Try.ld235 Try.st235 Try.ld243 Try.st243 Try.ld247 Try.st247 Try.ld252 Try.st252 Try.ld258 Try.st258 Try.al153 Try.al255 Try.al256 Try.al129 Try.al152 Try.al31 Try.al46 Try.al52 Try.al54 Try.al60 Try.al70 Try.al74 Try.al93 Try.al119 Try.al141 Try.al151 Try.al170 Try.al186 Try.al189 Try.al194 Try.al197 Try.al219 Try.al224 Try.al230 Try.al235 Try.al243 Try.al247 Try.al252 Try.al258
attribute [local go_sem] Request.length_enc Request.ok_enc Request.all_get Request.all_set Request.kind_get Request.kind_set Request.blob_get Request.blob_set Request.items_get Request.items_set Request.pred_get Request.pred_set Request.slots_get Request.slots_set Trace.length_enc Trace.ok_enc Trace.all_get Trace.all_set Trace.op_get Trace.op_set Trace.calls_get Trace.calls_set Item.length_enc Item.ok_enc Item.all_get Item.all_set Item.del_get Item.del_set Item.pred_get Item.pred_set Item.args_get Item.args_set Reply.length_enc Reply.ok_enc Reply.all_get Reply.all_set Reply.code_get Reply.code_set Reply.kind_get Reply.kind_set Reply.index_get Reply.index_set Reply.yes_get Reply.yes_set Reply.preds_get Reply.preds_set Reply.rules_get Reply.rules_set Reply.arity_get Reply.arity_set Reply.rows_get Reply.rows_set Reply.fact_get Reply.fact_set Reply.fact_del_get Reply.fact_del_set Reply.fact_pred_get Reply.fact_pred_set Reply.fact_args_get Reply.fact_args_set GEntry.length_enc GEntry.ok_enc GEntry.all_get GEntry.all_set GEntry.seq_get GEntry.seq_set GEntry.kind_get GEntry.kind_set GEntry.code_get GEntry.code_set GOp.length_enc GOp.ok_enc GOp.all_get GOp.all_set GOp.kind_get GOp.kind_set GOp.raw_get GOp.raw_set Reader.length_enc Reader.ok_enc Reader.all_get Reader.all_set Reader.buf_get Reader.buf_set Reader.at__get Reader.at__set Slot.length_enc Slot.ok_enc Slot.all_get Slot.all_set Slot.bound_get Slot.bound_set Slot.name_get Slot.name_set Session.length_enc Session.ok_enc Session.all_get Session.all_set Session.svc_get Session.svc_set Session.buf_get Session.buf_set Session.closed_get Session.closed_set GProgram.length_enc GProgram.ok_enc GProgram.all_get GProgram.all_set GProgram.pool_get GProgram.pool_set GProgram.preds_get GProgram.preds_set GProgram.rules_get GProgram.rules_set GProgram.strata_get GProgram.strata_set PredInfo.length_enc PredInfo.ok_enc PredInfo.all_get PredInfo.all_set PredInfo.arity_get PredInfo.arity_set PredInfo.base_get PredInfo.base_set PredInfo.stratum_get PredInfo.stratum_set Change.length_enc Change.ok_enc Change.all_get Change.all_set Change.del_get Change.del_set Change.pred_get Change.pred_set Change.t_get Change.t_set Store.length_enc Store.ok_enc Store.all_get Store.all_set Store.names_get Store.names_set Store.arity_get Store.arity_set Store.rows_get Store.rows_set Src.length_enc Src.ok_enc Src.all_get Src.all_set Src.b_get Src.b_set Src.at__get Src.at__set Atom.length_enc Atom.ok_enc Atom.all_get Atom.all_set Atom.pred_get Atom.pred_set Atom.args_get Atom.args_set GRule.length_enc GRule.ok_enc GRule.all_get GRule.all_set GRule.head_get GRule.head_set GRule.body_get GRule.body_set GRule.head_pred_get GRule.head_pred_set GRule.head_args_get GRule.head_args_set Cert.length_enc Cert.ok_enc Cert.all_get Cert.all_set Cert.names_get Cert.names_set Cert.nodes_get Cert.nodes_set Fact.length_enc Fact.ok_enc Fact.all_get Fact.all_set Fact.pred_get Fact.pred_set Fact.t_get Fact.t_set Literal.length_enc Literal.ok_enc Literal.all_get Literal.all_set Literal.neg_get Literal.neg_set Literal.atom_get Literal.atom_set Literal.atom_pred_get Literal.atom_pred_set Literal.atom_args_get Literal.atom_args_set Engine.length_enc Engine.ok_enc Engine.all_get Engine.all_set Engine.prog_get Engine.prog_set Engine.st_get Engine.st_set SrcCertm.length_enc SrcCertm.ok_enc SrcCertm.all_get SrcCertm.all_set SrcCertm.b_get SrcCertm.b_set SrcCertm.at__get SrcCertm.at__set GNode.length_enc GNode.ok_enc GNode.all_get GNode.all_set GNode.rule_get GNode.rule_set GNode.pred_get GNode.pred_set GNode.vals_get GNode.vals_set GNode.refs_get GNode.refs_set Term.length_enc Term.ok_enc Term.all_get Term.all_set Term.var_get Term.var_set Term.n_get Term.n_set Env.length_enc Env.ok_enc Env.all_get Env.all_set Env.val_get Env.val_set Env.set_get Env.set_set
attribute [local go_sem] size_put size_ext blk_put free_put blk_alloc free_alloc blk_drew free_drew blk_ext free_ext lookOr_some putOr_some segAt_some cellAt_some storeIn_some put_put put_alloc_new length_arr ok_arr_u8 ok_arr_u32 ok_arr_u64 ok_arr_i64 ok_arr_sl cellsV_agg cellsV_int cellsV_bool cellsV_string cellsV_pointer cellsV_slice cellsV_sl ok_int ok_bool ok_string ok_pointer ok_slice ok_sl toList_arr seg_arr set_arr nth_splice nth_splice0 seg_splice seg_splice0 splice_splice splice_splice0 length_splice_if
attribute [local go_sem ↓] execOp_box
attribute [local go_sem] box_run nth_arr_u8 put_arr_u8 blk_drewN free_drewN put_drewN blk_raw free_raw
theorem goN_wf : ∀ (m : Nat) (acc : List (List UInt8)) (ys : List UInt8), (goN m acc ys).1 = 0 → (∀ x ∈ acc, x.length ≤ 64) → (goN m acc ys).2.1.length = acc.length + m ∧ ∀ x ∈ (goN m acc ys).2.1, x.length ≤ 64
  | 0, acc, ys, _, ha => ⟨rfl, ha⟩
  | m + 1, acc, ys, h, ha => by
    by_cases e : (nameF ys).1 = 0
    · rw [goN_ok e] at h ⊢
      have hn : (nameF ys).2.1.length ≤ 64 := by
        cases ys with
        | nil => cases e
        | cons x r =>
          rw [nameF_cons] at e ⊢
          by_cases h1 : 64 < x.toNat
          · rw [if_pos h1] at e; cases e
          · rw [if_neg h1] at e ⊢
            by_cases h2 : r.length < x.toNat
            · rw [if_pos h2] at e; cases e
            · rw [if_neg h2]
              show (r.take x.toNat).length ≤ 64
              rw [List.length_take]; omega
      obtain ⟨h1, h2⟩ := goN_wf m _ _ h (fun x hx => by
        rcases List.mem_append.1 hx with h3 | h3
        · exact ha x h3
        · rw [List.mem_singleton.1 h3]; exact hn)
      refine ⟨?_, h2⟩
      rw [h1, List.length_append]; simp; omega
    · rw [goN_bad e] at h; exact absurd h e
def ItW (p : Int) (args : List (List UInt8)) : Prop := 0 ≤ p ∧ args.length ≤ 4 ∧ ∀ x ∈ args, x.length ≤ 64
theorem factF_wf {ys : List UInt8} (h : (factF ys).1 = 0) : ItW (factF ys).2.1 (factF ys).2.2.1 := by
  match ys, h with
  | [], h => cases h
  | [_], h => cases h
  | p :: k :: r, h =>
    rw [factF_cons] at h ⊢
    by_cases e : 4 < k.toNat
    · rw [if_pos e] at h; cases h
    · rw [if_neg e] at h ⊢
      by_cases e2 : (goN k.toNat [] r).1 = 0
      · rw [if_pos e2]
        obtain ⟨h1, h2⟩ := goN_wf k.toNat [] r e2 (fun x hx => by cases hx)
        refine ⟨by show (0 : Int) ≤ ((p.toNat : Nat) : Int); omega, ?_, h2⟩
        show (goN k.toNat [] r).2.1.length ≤ 4
        rw [h1]; simp; omega
      · rw [if_neg e2] at h; exact absurd h e2
theorem goB_wf : ∀ (m : Nat) (acc : List It) (ys : List UInt8), (goB m acc ys).1 = 0 → (∀ it ∈ acc, ItW it.2.1 it.2.2) → (goB m acc ys).2.1.length = acc.length + m ∧ ∀ it ∈ (goB m acc ys).2.1, ItW it.2.1 it.2.2
  | 0, acc, ys, _, ha => ⟨rfl, ha⟩
  | m + 1, acc, ys, h, ha => by
    by_cases e : (tagF ys).1 = 0
    · by_cases e2 : (factF (tagF ys).2.2).1 = 0
      · rw [goB_ok e e2] at h ⊢
        obtain ⟨h1, h2⟩ := goB_wf m _ _ h (fun x hx => by
          rcases List.mem_append.1 hx with h3 | h3
          · exact ha x h3
          · rw [List.mem_singleton.1 h3]; exact factF_wf e2)
        refine ⟨?_, h2⟩
        rw [h1, List.length_append]; simp; omega
      · rw [goB_bad2 e e2] at h; exact absurd h e2
    · rw [goB_bad1 e] at h; exact absurd h e
theorem goS_wf : ∀ (m : Nat) (acc : List Slt) (ys : List UInt8), (goS m acc ys).1 = 0 → (goS m acc ys).2.1.length = acc.length + m
  | 0, acc, ys, _ => rfl
  | m + 1, acc, ys, h => by
    by_cases e : (tagF ys).1 = 0
    · cases e1 : (tagF ys).2.1 with
      | false =>
        rw [goS_free e e1] at h ⊢
        rw [goS_wf m _ _ h, List.length_append]; simp; omega
      | true =>
        by_cases e2 : (nameF (tagF ys).2.2).1 = 0
        · rw [goS_ok e e1 e2] at h ⊢
          rw [goS_wf m _ _ h, List.length_append]; simp; omega
        · rw [goS_bad2 e e1 e2] at h; exact absurd h e2
    · rw [goS_bad1 e] at h; exact absurd h e
theorem decF_wf {xs : List UInt8} (hx : xs.length ≤ 65536) (h : (decF xs).1 = 0) : RqWf (decF xs).2 := by
  unfold decF at h ⊢
  by_cases e : (hdrF xs).1 ≠ 0
  · rw [if_pos e] at h; exact absurd h e
  · rw [if_neg e] at h ⊢
    obtain ⟨h4, k, k1, k7, hk⟩ := hdr_kind (Decidable.of_not_not e)
    rw [hk] at h ⊢
    unfold finF at h ⊢
    by_cases e1 : (bodyF (k : Int) (xs.drop 4)).1 ≠ 0
    · rw [if_pos e1] at h; exact absurd h e1
    · rw [if_neg e1] at h ⊢
      by_cases e2 : (bodyF (k : Int) (xs.drop 4)).2.2 ≠ []
      · rw [if_pos e2] at h; cases h
      · rw [if_neg e2]
        have e1' : (bodyF (k : Int) (xs.drop 4)).1 = 0 := Decidable.of_not_not e1
        clear h e e1 e2 hk
        have hyl : (xs.drop 4).length ≤ 65536 := by rw [List.length_drop]; omega
        show RqWf (bodyF (k : Int) (xs.drop 4)).2.1
        generalize xs.drop 4 = ys at e1' hyl ⊢
        by_cases c1 : (k : Int) = 1 ∨ (k : Int) = 7
        · rw [body1 (k : Int) c1] at e1' ⊢
          exact ⟨⟨by show (1 : Int) ≤ (k : Int); omega, by show (k : Int) ≤ 7; omega⟩, fun h => by exfalso; have h9 : (k : Int) = 2 ∨ (k : Int) = 3 ∨ (k : Int) = 5 := h; omega, (fun it h => by cases h), by show 0 ≤ 255; omega, by show (0 : Int) ≤ 0; omega, by show 0 ≤ 4; omega, hyl⟩
        · by_cases c2 : (k : Int) = 2 ∨ (k : Int) = 3 ∨ (k : Int) = 5
          · rw [body2 (k : Int) c2] at e1' ⊢
            have hf := factF_wf e1'
            exact ⟨⟨by show (1 : Int) ≤ (k : Int); omega, by show (k : Int) ≤ 7; omega⟩, fun _ => ⟨_, _, rfl⟩, fun it h => by rw [List.mem_singleton.1 h]; exact hf, by show 1 ≤ 255; omega, by show (0 : Int) ≤ 0; omega, by show 0 ≤ 4; omega, by show 0 ≤ 65536; omega⟩
          · by_cases c4 : (k : Int) = 4
            · rw [c4] at e1' ⊢
              rw [body4] at e1' ⊢
              have hb : (batchF ys).2.1.length ≤ 255 ∧ ∀ it ∈ (batchF ys).2.1, ItW it.2.1 it.2.2 := by
                cases ys with
                | nil => cases e1'
                | cons z r =>
                  have e9 : (batchF (z :: r)).1 = 0 := e1'
                  rw [batchF_cons] at e9 ⊢
                  by_cases c : 32 < z.toNat
                  · rw [if_pos c] at e9; cases e9
                  · rw [if_neg c] at e9 ⊢
                    obtain ⟨h1, h2⟩ := goB_wf z.toNat [] r e9 (fun x hx => by cases hx)
                    exact ⟨by rw [h1]; simp; omega, h2⟩
              exact ⟨⟨by show (1 : Int) ≤ 4; omega, by show (4 : Int) ≤ 7; omega⟩, fun h => by exfalso; have h9 : (4 : Int) = 2 ∨ (4 : Int) = 3 ∨ (4 : Int) = 5 := h; omega, hb.2, hb.1, by show (0 : Int) ≤ 0; omega, by show 0 ≤ 4; omega, by show 0 ≤ 65536; omega⟩
            · have c6 : (k : Int) = 6 := by omega
              rw [c6] at e1' ⊢
              cases ys with
              | nil => rw [body6n] at e1'; cases e1'
              | cons z r =>
                rw [body6c] at e1' ⊢
                have hs : (slotsF r).2.1.length ≤ 4 := by
                  have e9 : (slotsF r).1 = 0 := e1'
                  cases r with
                  | nil => cases e9
                  | cons y r =>
                    rw [slotsF_cons] at e9 ⊢
                    by_cases c : 4 < y.toNat
                    · rw [if_pos c] at e9; cases e9
                    · rw [if_neg c] at e9 ⊢
                      rw [goS_wf y.toNat [] r e9]; simp; omega
                exact ⟨⟨by show (1 : Int) ≤ 6; omega, by show (6 : Int) ≤ 7; omega⟩, fun h => by exfalso; have h9 : (6 : Int) = 2 ∨ (6 : Int) = 3 ∨ (6 : Int) = 5 := h; omega, (fun it h => by cases h), by show 0 ≤ 255; omega, by show (0 : Int) ≤ ((z.toNat : Nat) : Int); omega, hs, by show 0 ≤ 65536; omega⟩
/-- The service with a clear trace. -/
def Sv.clr (s : Sv) : Sv := ⟨s.inst, s.img, 0, 0, s.rst⟩
/-- The audit trail after one request. -/
def trF (r : Nat → Int) (kind code : Int) : Nat → Int := fun k => if k = 196 then r 196 + 1 else if k = 4 + (r 196).toNat % 64 * 3 then r 196 + 1 else if k = 4 + (r 196).toNat % 64 * 3 + 1 then kind else if k = 4 + (r 196).toNat % 64 * 3 + 2 then code else r k
def filR (r : Nat → Int) (kind code : Int) : Nat → Int := trF (cntF r kind.toNat code.toNat) kind code
def Sv.fil (s : Sv) (kind code : Int) : Sv := ⟨s.inst, s.img, s.op, s.calls, filR s.rst kind code⟩
/-- One request served, plainly. -/
def svR (s : Sv) (raw : List UInt8) (q : PRep) (s' : Sv) : Prop := ∃ s1, (((decF raw).1 ≠ 0 ∧ q = prZ (decF raw).1 0 (-1) ∧ s1 = s.clr) ∨ ((decF raw).1 = 0 ∧ dsR s.clr (decF raw).2 q s1)) ∧ s' = s1.fil q.kind q.code
/-- What is true of the service at all times; m bounds its counts. -/
structure SvI (m : Int) (s : Sv) : Prop where
  ins : ∀ t, s.inst = some t → InG t
  rst : ∀ k, 0 ≤ s.rst k ∧ s.rst k ≤ m
theorem cntF_lo (r : Nat → Int) (kind code : Nat) {k : Nat} (h : k < 197) : cntF r kind code k = r k := by
  unfold cntF cnt1 cntW upR
  rw [if_neg (by split; omega; split <;> omega), if_neg (by omega), if_neg (by omega), if_neg (by omega)]
theorem cntF_252 (r : Nat → Int) {kind code : Nat} (hk : kind < 8) (hc : code < 43) : cntF r kind code 252 = r 252 := by
  unfold cntF cnt1 cntW upR
  rw [if_neg (by split; omega; split <;> omega), if_neg (by omega), if_neg (by omega), if_neg (by omega)]
theorem cntF_bd {r : Nat → Int} {m : Int} (h : ∀ k, 0 ≤ r k ∧ r k ≤ m) (kind code : Nat) : ∀ k, 0 ≤ cntF r kind code k ∧ cntF r kind code k ≤ m + 4 := by
  have h1 := upR_bd h 197
  have h2 := upR_bd h1 (201 + kind)
  have h3 := upR_bd h2 (209 + code)
  have h4 := upR_bd h3 (cntW kind code)
  intro k
  have := h4 k
  unfold cntF cnt1
  omega
theorem trF_bd {r : Nat → Int} {m : Int} (h : ∀ k, 0 ≤ r k ∧ r k ≤ m) {kind code : Int} (hk : 0 ≤ kind ∧ kind ≤ m) (hc : 0 ≤ code ∧ code ≤ m) : ∀ k, 0 ≤ trF r kind code k ∧ trF r kind code k ≤ m + 1 := by
  intro k
  have h1 := h 196
  have h2 := h k
  unfold trF
  split
  · omega
  · split
    · omega
    · split
      · omega
      · split <;> omega
end Go.Proofs.Qxb6500787a
