
import Derived.Test.Qxb6500787aGreatXf
import Derived.StillTailTactics
import Derived.Deep.QuietTactic
import Derived.BigQuiet
import Derived.Deep.RegionHeld
import Derived.Deep.CutRange
import Derived.Laws.ResultCell
import Derived.Laws.Rows
import Derived.DeepKeys
import Derived.DataBytes
import Derived.Laws.StructEq
import Derived.Laws.AppendOwn
import Derived.Laws.MakeOwn
import Derived.Lib.AppendStr
set_option linter.unusedSimpArgs false
set_option linter.unusedVariables false
namespace Go.Proofs.Qxb6500787aGreat
open Go.RowKit Go.Blk
attribute [local go_sem ↓] execOp_load execOp_store execOp_alloc
attribute [local go_sem] Tryz.ld26 Tryz.st26 Tryz.ld27 Tryz.st27 Tryz.ld28 Tryz.st28 Tryz.ld3 Tryz.st3 Tryz.ld29 Tryz.st29 Tryz.ld44 Tryz.st44 Tryz.ld4 Tryz.st4 Tryz.ld50 Tryz.st50 Tryz.ld32 Tryz.st32 Tryz.ld49 Tryz.st49 Tryz.ld68 Tryz.st68 Tryz.ld9 Tryz.st9 Tryz.ld40 Tryz.st40 Tryz.ld138 Tryz.st138 Tryz.ld139 Tryz.st139 Tryz.ld146 Tryz.st146 Tryz.ld183 Tryz.st183 Tryz.ld184 Tryz.st184 Tryz.ld192 Tryz.st192 Tryz.ld195 Tryz.st195 Tryz.ld217 Tryz.st217 Tryz.ld159 Tryz.st159 Tryz.ld142 Tryz.st142 Tryz.ld2 Tryz.st2 Tryz.ld5 Tryz.st5 Tryz.ld12 Tryz.st12 Tryz.ld21 Tryz.st21 Tryz.ld22 Tryz.st22 Tryz.ld24 Tryz.st24 Tryz.ld58 Tryz.st58 Tryz.ld97 Tryz.st97 Tryz.ld101 Tryz.st101 Tryz.ld116 Tryz.st116 Tryz.ld121 Tryz.st121 Tryz.ld135 Tryz.st135 Tryz.ld136 Tryz.st136 Tryz.ld143 Tryz.st143 Tryz.ld148 Tryz.st148 Tryz.ld154 Tryz.st154 Tryz.ld173 Tryz.st173 Tryz.ld187 Tryz.st187 Tryz.ld222 Tryz.st222 Tryz.ld241 Tryz.st241 Tryz.ld248 Tryz.st248 Tryz.ld268 Tryz.st268 Tryz.ld272 Tryz.st272 Tryz.ld153 Tryz.st153 Tryz.ld255 Tryz.st255 Tryz.ld256 Tryz.st256 Tryz.ld129 Tryz.st129 Tryz.ld152 Tryz.st152 Tryz.ld31 Tryz.st31 Tryz.ld46 Tryz.st46 Tryz.ld52 Tryz.st52 Tryz.ld54 Tryz.st54 Tryz.ld60 Tryz.st60 Tryz.ld70 Tryz.st70 Tryz.ld74 Tryz.st74 Tryz.ld93 Tryz.st93 Tryz.ld141 Tryz.st141 Tryz.ld151 Tryz.st151 Tryz.ld170 Tryz.st170 Tryz.ld186 Tryz.st186 Tryz.ld189 Tryz.st189 Tryz.ld194 Tryz.st194 Tryz.ld197 Tryz.st197 Tryz.ld219 Tryz.st219 Tryz.ld224 Tryz.st224 Tryz.ld230 Tryz.st230 Tryz.ld235 Tryz.st235 Tryz.ld243 Tryz.st243 Tryz.ld247 Tryz.st247 Tryz.ld252 Tryz.st252 Tryz.ld258 Tryz.st258 Tryz.al153 Tryz.al255 Tryz.al256 Tryz.al129 Tryz.al152 Tryz.al31 Tryz.al46 Tryz.al52 Tryz.al54 Tryz.al60 Tryz.al70 Tryz.al74 Tryz.al93 Tryz.al141 Tryz.al151 Tryz.al170 Tryz.al186 Tryz.al189 Tryz.al194 Tryz.al197 Tryz.al219 Tryz.al224 Tryz.al230 Tryz.al235 Tryz.al243 Tryz.al247 Tryz.al252 Tryz.al258
attribute [local go_sem] Request.length_enc Request.ok_enc Request.all_get Request.all_set Request.kind_get Request.kind_set Request.blob_get Request.blob_set Request.items_get Request.items_set Request.pred_get Request.pred_set Request.slots_get Request.slots_set Trace.length_enc Trace.ok_enc Trace.all_get Trace.all_set Trace.op_get Trace.op_set Trace.calls_get Trace.calls_set Item.length_enc Item.ok_enc Item.all_get Item.all_set Item.del_get Item.del_set Item.pred_get Item.pred_set Item.args_get Item.args_set Reply.length_enc Reply.ok_enc Reply.all_get Reply.all_set Reply.code_get Reply.code_set Reply.kind_get Reply.kind_set Reply.index_get Reply.index_set Reply.yes_get Reply.yes_set Reply.preds_get Reply.preds_set Reply.rules_get Reply.rules_set Reply.arity_get Reply.arity_set Reply.rows_get Reply.rows_set Reply.fact_get Reply.fact_set Reply.fact_del_get Reply.fact_del_set Reply.fact_pred_get Reply.fact_pred_set Reply.fact_args_get Reply.fact_args_set GEntry.length_enc GEntry.ok_enc GEntry.all_get GEntry.all_set GEntry.seq_get GEntry.seq_set GEntry.kind_get GEntry.kind_set GEntry.code_get GEntry.code_set GOp.length_enc GOp.ok_enc GOp.all_get GOp.all_set GOp.kind_get GOp.kind_set GOp.raw_get GOp.raw_set Reader.length_enc Reader.ok_enc Reader.all_get Reader.all_set Reader.buf_get Reader.buf_set Reader.at__get Reader.at__set Slot.length_enc Slot.ok_enc Slot.all_get Slot.all_set Slot.bound_get Slot.bound_set Slot.name_get Slot.name_set Session.length_enc Session.ok_enc Session.all_get Session.all_set Session.svc_get Session.svc_set Session.buf_get Session.buf_set Session.closed_get Session.closed_set GProgram.length_enc GProgram.ok_enc GProgram.all_get GProgram.all_set GProgram.pool_get GProgram.pool_set GProgram.preds_get GProgram.preds_set GProgram.rules_get GProgram.rules_set GProgram.strata_get GProgram.strata_set PredInfo.length_enc PredInfo.ok_enc PredInfo.all_get PredInfo.all_set PredInfo.arity_get PredInfo.arity_set PredInfo.base_get PredInfo.base_set PredInfo.stratum_get PredInfo.stratum_set Change.length_enc Change.ok_enc Change.all_get Change.all_set Change.del_get Change.del_set Change.pred_get Change.pred_set Change.t_get Change.t_set Store.length_enc Store.ok_enc Store.all_get Store.all_set Store.names_get Store.names_set Store.arity_get Store.arity_set Store.rows_get Store.rows_set Src.length_enc Src.ok_enc Src.all_get Src.all_set Src.b_get Src.b_set Src.at__get Src.at__set Atom.length_enc Atom.ok_enc Atom.all_get Atom.all_set Atom.pred_get Atom.pred_set Atom.args_get Atom.args_set GRule.length_enc GRule.ok_enc GRule.all_get GRule.all_set GRule.head_get GRule.head_set GRule.body_get GRule.body_set GRule.head_pred_get GRule.head_pred_set GRule.head_args_get GRule.head_args_set Cert.length_enc Cert.ok_enc Cert.all_get Cert.all_set Cert.names_get Cert.names_set Cert.nodes_get Cert.nodes_set Fact.length_enc Fact.ok_enc Fact.all_get Fact.all_set Fact.pred_get Fact.pred_set Fact.t_get Fact.t_set Literal.length_enc Literal.ok_enc Literal.all_get Literal.all_set Literal.neg_get Literal.neg_set Literal.atom_get Literal.atom_set Literal.atom_pred_get Literal.atom_pred_set Literal.atom_args_get Literal.atom_args_set Engine.length_enc Engine.ok_enc Engine.all_get Engine.all_set Engine.prog_get Engine.prog_set Engine.st_get Engine.st_set SrcCertm.length_enc SrcCertm.ok_enc SrcCertm.all_get SrcCertm.all_set SrcCertm.b_get SrcCertm.b_set SrcCertm.at__get SrcCertm.at__set GNode.length_enc GNode.ok_enc GNode.all_get GNode.all_set GNode.rule_get GNode.rule_set GNode.pred_get GNode.pred_set GNode.vals_get GNode.vals_set GNode.refs_get GNode.refs_set Term.length_enc Term.ok_enc Term.all_get Term.all_set Term.var_get Term.var_set Term.n_get Term.n_set Env.length_enc Env.ok_enc Env.all_get Env.all_set Env.val_get Env.val_set Env.set_get Env.set_set
attribute [local go_sem] size_put size_ext blk_put free_put blk_alloc free_alloc blk_drew free_drew blk_ext free_ext lookOr_some putOr_some segAt_some cellAt_some storeIn_some put_put put_alloc_new length_arr ok_arr_u8 ok_arr_u32 ok_arr_u64 ok_arr_i64 ok_arr_sl cellsV_agg cellsV_int cellsV_bool cellsV_string cellsV_pointer cellsV_slice cellsV_sl ok_int ok_bool ok_string ok_pointer ok_slice ok_sl toList_arr seg_arr set_arr nth_splice nth_splice0 seg_splice seg_splice0 splice_splice splice_splice0 length_splice_if
attribute [local go_sem ↓] execOp_box
attribute [local go_sem] box_run nth_arr_u8 put_arr_u8 blk_drewN free_drewN put_drewN blk_raw free_raw
theorem goN_wf : ∀ (m : Nat) (acc : List (List UInt8)) (ys : List UInt8), (goN m acc ys).1 = 0 → (∀ x ∈ acc, x.length ≤ 64) → (goN m acc ys).2.1.length = acc.length + m ∧ ∀ x ∈ (goN m acc ys).2.1, x.length ≤ 64
  | 0, acc, ys, _, ha => ⟨rfl, ha⟩
  | m + 1, acc, ys, h, ha => by
    by_cases e : (nameF ys).1 = 0
    · rw [goN_ok e] at h ⊢
      have hn : (nameF ys).2.1.length ≤ 64 := by
        cases ys with
        | nil => cases e
        | cons x r =>
          rw [nameF_cons] at e ⊢
          by_cases h1 : 64 < x.toNat
          · rw [if_pos h1] at e; cases e
          · rw [if_neg h1] at e ⊢
            by_cases h2 : r.length < x.toNat
            · rw [if_pos h2] at e; cases e
            · rw [if_neg h2]
              show (r.take x.toNat).length ≤ 64
              rw [List.length_take]; omega
      obtain ⟨h1, h2⟩ := goN_wf m _ _ h (fun x hx => by
        rcases List.mem_append.1 hx with h3 | h3
        · exact ha x h3
        · rw [List.mem_singleton.1 h3]; exact hn)
      refine ⟨?_, h2⟩
      rw [h1, List.length_append]; simp; omega
    · rw [goN_bad e] at h; exact absurd h e
def ItW (p : Int) (args : List (List UInt8)) : Prop := 0 ≤ p ∧ args.length ≤ 4 ∧ ∀ x ∈ args, x.length ≤ 64
theorem factF_wf {ys : List UInt8} (h : (factF ys).1 = 0) : ItW (factF ys).2.1 (factF ys).2.2.1 := by
  match ys, h with
  | [], h => cases h
  | [_], h => cases h
  | p :: k :: r, h =>
    rw [factF_cons] at h ⊢
    by_cases e : 4 < k.toNat
    · rw [if_pos e] at h; cases h
    · rw [if_neg e] at h ⊢
      by_cases e2 : (goN k.toNat [] r).1 = 0
      · rw [if_pos e2]
        obtain ⟨h1, h2⟩ := goN_wf k.toNat [] r e2 (fun x hx => by cases hx)
        refine ⟨by show (0 : Int) ≤ ((p.toNat : Nat) : Int); omega, ?_, h2⟩
        show (goN k.toNat [] r).2.1.length ≤ 4
        rw [h1]; simp; omega
      · rw [if_neg e2] at h; exact absurd h e2
theorem goB_wf : ∀ (m : Nat) (acc : List It) (ys : List UInt8), (goB m acc ys).1 = 0 → (∀ it ∈ acc, ItW it.2.1 it.2.2) → (goB m acc ys).2.1.length = acc.length + m ∧ ∀ it ∈ (goB m acc ys).2.1, ItW it.2.1 it.2.2
  | 0, acc, ys, _, ha => ⟨rfl, ha⟩
  | m + 1, acc, ys, h, ha => by
    by_cases e : (tagF ys).1 = 0
    · by_cases e2 : (factF (tagF ys).2.2).1 = 0
      · rw [goB_ok e e2] at h ⊢
        obtain ⟨h1, h2⟩ := goB_wf m _ _ h (fun x hx => by
          rcases List.mem_append.1 hx with h3 | h3
          · exact ha x h3
          · rw [List.mem_singleton.1 h3]; exact factF_wf e2)
        refine ⟨?_, h2⟩
        rw [h1, List.length_append]; simp; omega
      · rw [goB_bad2 e e2] at h; exact absurd h e2
    · rw [goB_bad1 e] at h; exact absurd h e
theorem goS_wf : ∀ (m : Nat) (acc : List Slt) (ys : List UInt8), (goS m acc ys).1 = 0 → (goS m acc ys).2.1.length = acc.length + m
  | 0, acc, ys, _ => rfl
  | m + 1, acc, ys, h => by
    by_cases e : (tagF ys).1 = 0
    · cases e1 : (tagF ys).2.1 with
      | false =>
        rw [goS_free e e1] at h ⊢
        rw [goS_wf m _ _ h, List.length_append]; simp; omega
      | true =>
        by_cases e2 : (nameF (tagF ys).2.2).1 = 0
        · rw [goS_ok e e1 e2] at h ⊢
          rw [goS_wf m _ _ h, List.length_append]; simp; omega
        · rw [goS_bad2 e e1 e2] at h; exact absurd h e2
    · rw [goS_bad1 e] at h; exact absurd h e
theorem decF_wf {xs : List UInt8} (hx : xs.length ≤ 65536) (h : (decF xs).1 = 0) : RqWf (decF xs).2 := by
  unfold decF at h ⊢
  by_cases e : (hdrF xs).1 ≠ 0
  · rw [if_pos e] at h; exact absurd h e
  · rw [if_neg e] at h ⊢
    obtain ⟨h4, k, k1, k7, hk⟩ := hdr_kind (Decidable.of_not_not e)
    rw [hk] at h ⊢
    unfold finF at h ⊢
    by_cases e1 : (bodyF (k : Int) (xs.drop 4)).1 ≠ 0
    · rw [if_pos e1] at h; exact absurd h e1
    · rw [if_neg e1] at h ⊢
      by_cases e2 : (bodyF (k : Int) (xs.drop 4)).2.2 ≠ []
      · rw [if_pos e2] at h; cases h
      · rw [if_neg e2]
        have e1' : (bodyF (k : Int) (xs.drop 4)).1 = 0 := Decidable.of_not_not e1
        clear h e e1 e2 hk
        have hyl : (xs.drop 4).length ≤ 65536 := by rw [List.length_drop]; omega
        show RqWf (bodyF (k : Int) (xs.drop 4)).2.1
        generalize xs.drop 4 = ys at e1' hyl ⊢
        by_cases c1 : (k : Int) = 1 ∨ (k : Int) = 7
        · rw [body1 (k : Int) c1] at e1' ⊢
          exact ⟨⟨by show (1 : Int) ≤ (k : Int); omega, by show (k : Int) ≤ 7; omega⟩, fun h => by exfalso; have h9 : (k : Int) = 2 ∨ (k : Int) = 3 ∨ (k : Int) = 5 := h; omega, (fun it h => by cases h), by show 0 ≤ 255; omega, by show (0 : Int) ≤ 0; omega, by show 0 ≤ 4; omega, hyl⟩
        · by_cases c2 : (k : Int) = 2 ∨ (k : Int) = 3 ∨ (k : Int) = 5
          · rw [body2 (k : Int) c2] at e1' ⊢
            have hf := factF_wf e1'
            exact ⟨⟨by show (1 : Int) ≤ (k : Int); omega, by show (k : Int) ≤ 7; omega⟩, fun _ => ⟨_, _, rfl⟩, fun it h => by rw [List.mem_singleton.1 h]; exact hf, by show 1 ≤ 255; omega, by show (0 : Int) ≤ 0; omega, by show 0 ≤ 4; omega, by show 0 ≤ 65536; omega⟩
          · by_cases c4 : (k : Int) = 4
            · rw [c4] at e1' ⊢
              rw [body4] at e1' ⊢
              have hb : (batchF ys).2.1.length ≤ 255 ∧ ∀ it ∈ (batchF ys).2.1, ItW it.2.1 it.2.2 := by
                cases ys with
                | nil => cases e1'
                | cons z r =>
                  have e9 : (batchF (z :: r)).1 = 0 := e1'
                  rw [batchF_cons] at e9 ⊢
                  by_cases c : 32 < z.toNat
                  · rw [if_pos c] at e9; cases e9
                  · rw [if_neg c] at e9 ⊢
                    obtain ⟨h1, h2⟩ := goB_wf z.toNat [] r e9 (fun x hx => by cases hx)
                    exact ⟨by rw [h1]; simp; omega, h2⟩
              exact ⟨⟨by show (1 : Int) ≤ 4; omega, by show (4 : Int) ≤ 7; omega⟩, fun h => by exfalso; have h9 : (4 : Int) = 2 ∨ (4 : Int) = 3 ∨ (4 : Int) = 5 := h; omega, hb.2, hb.1, by show (0 : Int) ≤ 0; omega, by show 0 ≤ 4; omega, by show 0 ≤ 65536; omega⟩
            · have c6 : (k : Int) = 6 := by omega
              rw [c6] at e1' ⊢
              cases ys with
              | nil => rw [body6n] at e1'; cases e1'
              | cons z r =>
                rw [body6c] at e1' ⊢
                have hs : (slotsF r).2.1.length ≤ 4 := by
                  have e9 : (slotsF r).1 = 0 := e1'
                  cases r with
                  | nil => cases e9
                  | cons y r =>
                    rw [slotsF_cons] at e9 ⊢
                    by_cases c : 4 < y.toNat
                    · rw [if_pos c] at e9; cases e9
                    · rw [if_neg c] at e9 ⊢
                      rw [goS_wf y.toNat [] r e9]; simp; omega
                exact ⟨⟨by show (1 : Int) ≤ 6; omega, by show (6 : Int) ≤ 7; omega⟩, fun h => by exfalso; have h9 : (6 : Int) = 2 ∨ (6 : Int) = 3 ∨ (6 : Int) = 5 := h; omega, (fun it h => by cases h), by show 0 ≤ 255; omega, by show (0 : Int) ≤ ((z.toNat : Nat) : Int); omega, hs, by show 0 ≤ 65536; omega⟩
/-- The service with a clear trace. -/
def Sv.clr (s : Sv) : Sv := ⟨s.inst, s.img, 0, 0, s.rst⟩
/-- The audit trail after one request. -/
def trF (r : Nat → Int) (kind code : Int) : Nat → Int := fun k => if k = 196 then r 196 + 1 else if k = 4 + (r 196).toNat % 64 * 3 then r 196 + 1 else if k = 4 + (r 196).toNat % 64 * 3 + 1 then kind else if k = 4 + (r 196).toNat % 64 * 3 + 2 then code else r k
def filR (r : Nat → Int) (kind code : Int) : Nat → Int := trF (cntF r kind.toNat code.toNat) kind code
def Sv.fil (s : Sv) (kind code : Int) : Sv := ⟨s.inst, s.img, s.op, s.calls, filR s.rst kind code⟩
/-- One request served, plainly. -/
def svR (s : Sv) (raw : List UInt8) (q : PRep) (s' : Sv) : Prop := ∃ s1, (((decF raw).1 ≠ 0 ∧ q = prZ (decF raw).1 0 (-1) ∧ s1 = s.clr) ∨ ((decF raw).1 = 0 ∧ dsR s.clr (decF raw).2 q s1)) ∧ s' = s1.fil q.kind q.code
/-- What is true of the service at all times; m bounds its counts. -/
structure SvI (m : Int) (s : Sv) : Prop where
  ins : ∀ t, s.inst = some t → InG t
  rst : ∀ k, 0 ≤ s.rst k ∧ s.rst k ≤ m
theorem cntF_lo (r : Nat → Int) (kind code : Nat) {k : Nat} (h : k < 197) : cntF r kind code k = r k := by
  unfold cntF cnt1 cntW upR
  rw [if_neg (by split; omega; split <;> omega), if_neg (by omega), if_neg (by omega), if_neg (by omega)]
theorem cntF_252 (r : Nat → Int) {kind code : Nat} (hk : kind < 8) (hc : code < 43) : cntF r kind code 252 = r 252 := by
  unfold cntF cnt1 cntW upR
  rw [if_neg (by split; omega; split <;> omega), if_neg (by omega), if_neg (by omega), if_neg (by omega)]
theorem cntF_bd {r : Nat → Int} {m : Int} (h : ∀ k, 0 ≤ r k ∧ r k ≤ m) (kind code : Nat) : ∀ k, 0 ≤ cntF r kind code k ∧ cntF r kind code k ≤ m + 4 := by
  have h1 := upR_bd h 197
  have h2 := upR_bd h1 (201 + kind)
  have h3 := upR_bd h2 (209 + code)
  have h4 := upR_bd h3 (cntW kind code)
  intro k
  have := h4 k
  unfold cntF cnt1
  omega
theorem trF_bd {r : Nat → Int} {m : Int} (h : ∀ k, 0 ≤ r k ∧ r k ≤ m) {kind code : Int} (hk : 0 ≤ kind ∧ kind ≤ m) (hc : 0 ≤ code ∧ code ≤ m) : ∀ k, 0 ≤ trF r kind code k ∧ trF r kind code k ≤ m + 1 := by
  intro k
  have h1 := h 196
  have h2 := h k
  unfold trF
  split
  · omega
  · split
    · omega
    · split
      · omega
      · split <;> omega
end Go.Proofs.Qxb6500787aGreat
