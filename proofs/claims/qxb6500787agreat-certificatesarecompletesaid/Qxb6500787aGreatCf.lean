import Derived.Test.Qxb6500787aGreatCc
import Derived.Test.Qxb6500787aGreatMs
import Derived.Test.Qxb6500787aGreatZn

import Derived.StillTailTactics
import Derived.Deep.QuietTactic
import Derived.BigQuiet
import Derived.Deep.RegionHeld
import Derived.Deep.CutRange
import Derived.Laws.ResultCell
import Derived.Laws.Rows
import Derived.DeepKeys
import Derived.DataBytes
import Derived.Laws.StructEq
import Derived.Laws.AppendOwn
import Derived.Laws.MakeOwn
import Derived.Lib.AppendStr
set_option linter.unusedSimpArgs false
set_option linter.unusedVariables false
namespace Go.Proofs.Qxb6500787aGreat
open Go.RowKit Go.Blk
attribute [local go_sem ↓] execOp_load execOp_store execOp_alloc
attribute [local go_sem] Tryz.ld26 Tryz.st26 Tryz.ld27 Tryz.st27 Tryz.ld28 Tryz.st28 Tryz.ld3 Tryz.st3 Tryz.ld29 Tryz.st29 Tryz.ld44 Tryz.st44 Tryz.ld4 Tryz.st4 Tryz.ld50 Tryz.st50 Tryz.ld32 Tryz.st32 Tryz.ld49 Tryz.st49 Tryz.ld68 Tryz.st68 Tryz.ld9 Tryz.st9 Tryz.ld40 Tryz.st40 Tryz.ld138 Tryz.st138 Tryz.ld139 Tryz.st139 Tryz.ld146 Tryz.st146 Tryz.ld183 Tryz.st183 Tryz.ld184 Tryz.st184 Tryz.ld192 Tryz.st192 Tryz.ld195 Tryz.st195 Tryz.ld217 Tryz.st217 Tryz.ld159 Tryz.st159 Tryz.ld142 Tryz.st142 Tryz.ld2 Tryz.st2 Tryz.ld5 Tryz.st5 Tryz.ld12 Tryz.st12 Tryz.ld21 Tryz.st21 Tryz.ld22 Tryz.st22 Tryz.ld24 Tryz.st24 Tryz.ld58 Tryz.st58 Tryz.ld97 Tryz.st97 Tryz.ld101 Tryz.st101 Tryz.ld116 Tryz.st116 Tryz.ld121 Tryz.st121 Tryz.ld135 Tryz.st135 Tryz.ld136 Tryz.st136 Tryz.ld143 Tryz.st143 Tryz.ld148 Tryz.st148 Tryz.ld154 Tryz.st154 Tryz.ld173 Tryz.st173 Tryz.ld187 Tryz.st187 Tryz.ld222 Tryz.st222 Tryz.ld241 Tryz.st241 Tryz.ld248 Tryz.st248 Tryz.ld268 Tryz.st268 Tryz.ld272 Tryz.st272 Tryz.ld153 Tryz.st153 Tryz.ld255 Tryz.st255 Tryz.ld256 Tryz.st256 Tryz.ld129 Tryz.st129 Tryz.ld152 Tryz.st152 Tryz.ld31 Tryz.st31 Tryz.ld46 Tryz.st46 Tryz.ld52 Tryz.st52 Tryz.ld54 Tryz.st54 Tryz.ld60 Tryz.st60 Tryz.ld70 Tryz.st70 Tryz.ld74 Tryz.st74 Tryz.ld93 Tryz.st93 Tryz.ld141 Tryz.st141 Tryz.ld151 Tryz.st151 Tryz.ld170 Tryz.st170 Tryz.ld186 Tryz.st186 Tryz.ld189 Tryz.st189 Tryz.ld194 Tryz.st194 Tryz.ld197 Tryz.st197 Tryz.ld219 Tryz.st219 Tryz.ld224 Tryz.st224 Tryz.ld230 Tryz.st230 Tryz.ld235 Tryz.st235 Tryz.ld243 Tryz.st243 Tryz.ld247 Tryz.st247 Tryz.ld252 Tryz.st252 Tryz.ld258 Tryz.st258 Tryz.al153 Tryz.al255 Tryz.al256 Tryz.al129 Tryz.al152 Tryz.al31 Tryz.al46 Tryz.al52 Tryz.al54 Tryz.al60 Tryz.al70 Tryz.al74 Tryz.al93 Tryz.al141 Tryz.al151 Tryz.al170 Tryz.al186 Tryz.al189 Tryz.al194 Tryz.al197 Tryz.al219 Tryz.al224 Tryz.al230 Tryz.al235 Tryz.al243 Tryz.al247 Tryz.al252 Tryz.al258
attribute [local go_sem] Request.length_enc Request.ok_enc Request.all_get Request.all_set Request.kind_get Request.kind_set Request.blob_get Request.blob_set Request.items_get Request.items_set Request.pred_get Request.pred_set Request.slots_get Request.slots_set Trace.length_enc Trace.ok_enc Trace.all_get Trace.all_set Trace.op_get Trace.op_set Trace.calls_get Trace.calls_set Item.length_enc Item.ok_enc Item.all_get Item.all_set Item.del_get Item.del_set Item.pred_get Item.pred_set Item.args_get Item.args_set Reply.length_enc Reply.ok_enc Reply.all_get Reply.all_set Reply.code_get Reply.code_set Reply.kind_get Reply.kind_set Reply.index_get Reply.index_set Reply.yes_get Reply.yes_set Reply.preds_get Reply.preds_set Reply.rules_get Reply.rules_set Reply.arity_get Reply.arity_set Reply.rows_get Reply.rows_set Reply.fact_get Reply.fact_set Reply.fact_del_get Reply.fact_del_set Reply.fact_pred_get Reply.fact_pred_set Reply.fact_args_get Reply.fact_args_set GEntry.length_enc GEntry.ok_enc GEntry.all_get GEntry.all_set GEntry.seq_get GEntry.seq_set GEntry.kind_get GEntry.kind_set GEntry.code_get GEntry.code_set GOp.length_enc GOp.ok_enc GOp.all_get GOp.all_set GOp.kind_get GOp.kind_set GOp.raw_get GOp.raw_set Reader.length_enc Reader.ok_enc Reader.all_get Reader.all_set Reader.buf_get Reader.buf_set Reader.at__get Reader.at__set Slot.length_enc Slot.ok_enc Slot.all_get Slot.all_set Slot.bound_get Slot.bound_set Slot.name_get Slot.name_set Session.length_enc Session.ok_enc Session.all_get Session.all_set Session.svc_get Session.svc_set Session.buf_get Session.buf_set Session.closed_get Session.closed_set GProgram.length_enc GProgram.ok_enc GProgram.all_get GProgram.all_set GProgram.pool_get GProgram.pool_set GProgram.preds_get GProgram.preds_set GProgram.rules_get GProgram.rules_set GProgram.strata_get GProgram.strata_set PredInfo.length_enc PredInfo.ok_enc PredInfo.all_get PredInfo.all_set PredInfo.arity_get PredInfo.arity_set PredInfo.base_get PredInfo.base_set PredInfo.stratum_get PredInfo.stratum_set Change.length_enc Change.ok_enc Change.all_get Change.all_set Change.del_get Change.del_set Change.pred_get Change.pred_set Change.t_get Change.t_set Store.length_enc Store.ok_enc Store.all_get Store.all_set Store.names_get Store.names_set Store.arity_get Store.arity_set Store.rows_get Store.rows_set Src.length_enc Src.ok_enc Src.all_get Src.all_set Src.b_get Src.b_set Src.at__get Src.at__set Atom.length_enc Atom.ok_enc Atom.all_get Atom.all_set Atom.pred_get Atom.pred_set Atom.args_get Atom.args_set GRule.length_enc GRule.ok_enc GRule.all_get GRule.all_set GRule.head_get GRule.head_set GRule.body_get GRule.body_set GRule.head_pred_get GRule.head_pred_set GRule.head_args_get GRule.head_args_set Cert.length_enc Cert.ok_enc Cert.all_get Cert.all_set Cert.names_get Cert.names_set Cert.nodes_get Cert.nodes_set Fact.length_enc Fact.ok_enc Fact.all_get Fact.all_set Fact.pred_get Fact.pred_set Fact.t_get Fact.t_set Literal.length_enc Literal.ok_enc Literal.all_get Literal.all_set Literal.neg_get Literal.neg_set Literal.atom_get Literal.atom_set Literal.atom_pred_get Literal.atom_pred_set Literal.atom_args_get Literal.atom_args_set Engine.length_enc Engine.ok_enc Engine.all_get Engine.all_set Engine.prog_get Engine.prog_set Engine.st_get Engine.st_set SrcCertm.length_enc SrcCertm.ok_enc SrcCertm.all_get SrcCertm.all_set SrcCertm.b_get SrcCertm.b_set SrcCertm.at__get SrcCertm.at__set GNode.length_enc GNode.ok_enc GNode.all_get GNode.all_set GNode.rule_get GNode.rule_set GNode.pred_get GNode.pred_set GNode.vals_get GNode.vals_set GNode.refs_get GNode.refs_set Term.length_enc Term.ok_enc Term.all_get Term.all_set Term.var_get Term.var_set Term.n_get Term.n_set Env.length_enc Env.ok_enc Env.all_get Env.all_set Env.val_get Env.val_set Env.set_get Env.set_set
attribute [local go_sem] size_put size_ext blk_put free_put blk_alloc free_alloc blk_drew free_drew blk_ext free_ext lookOr_some putOr_some segAt_some cellAt_some storeIn_some put_put put_alloc_new length_arr ok_arr_u8 ok_arr_u32 ok_arr_u64 ok_arr_i64 ok_arr_sl cellsV_agg cellsV_int cellsV_bool cellsV_string cellsV_pointer cellsV_slice cellsV_sl ok_int ok_bool ok_string ok_pointer ok_slice ok_sl toList_arr seg_arr set_arr nth_splice nth_splice0 seg_splice seg_splice0 splice_splice splice_splice0 length_splice_if
attribute [local go_sem ↓] execOp_box
attribute [local go_sem] box_run nth_arr_u8 put_arr_u8 blk_drewN free_drewN put_drewN blk_raw free_raw
/-- A path of dependencies. -/
inductive Reach (p : PP) (x : Nat) : Nat → Prop where
  | refl : Reach p x x
  | step (r : PR) (l : PL) : r ∈ p.rules → l ∈ r.body → Reach p x l.atom.pred → Reach p x r.head.pred
theorem Reach.trans {p : PP} {x y z : Nat} (h : Reach p x y) (h' : Reach p y z) : Reach p x z := by
  induction h' with
  | refl => exact h
  | step r l hr hl _ ih => exact .step r l hr hl ih
/-! ### The search is sound -/
theorem rchL_snd {p : PP} {fr at_ : Nat} {r : PR} (hr : r ∈ p.rules) {l : PL} (hl : l ∈ r.body) (ha : Reach p fr at_) {X : List Bool × List Nat} (h : ∀ q ∈ X.2, Reach p fr q) : ∀ q ∈ (rchL r.head.pred at_ X l).2, Reach p fr q := fun q hq => by
  unfold rchL at hq
  split at hq
  · rename_i hc
    rcases List.mem_append.1 hq with hq | hq
    · exact h q hq
    · rw [List.mem_singleton.1 hq]
      exact .step r l hr hl (hc.1 ▸ ha)
  · exact h q hq
theorem rchLs_snd {p : PP} {fr at_ : Nat} {r : PR} (hr : r ∈ p.rules) (ha : Reach p fr at_) : ∀ (ls : List PL) {X : List Bool × List Nat}, (∀ l ∈ ls, l ∈ r.body) → (∀ q ∈ X.2, Reach p fr q) → ∀ q ∈ (ls.foldl (rchL r.head.pred at_) X).2, Reach p fr q
  | [], _, _, h => h
  | l :: ls, X, hl, h => by
    rw [List.foldl_cons]
    exact rchLs_snd hr ha ls (fun x hx => hl x (List.mem_cons_of_mem _ hx)) (rchL_snd hr (hl l List.mem_cons_self) ha h)
theorem rchRs_snd {p : PP} {fr at_ : Nat} (ha : Reach p fr at_) : ∀ (rs : List PR) {X : List Bool × List Nat}, (∀ r ∈ rs, r ∈ p.rules) → (∀ q ∈ X.2, Reach p fr q) → ∀ q ∈ (rs.foldl (rchR at_) X).2, Reach p fr q
  | [], _, _, h => h
  | r :: rs, X, hr, h => by
    rw [List.foldl_cons]
    exact rchRs_snd ha rs (fun x hx => hr x (List.mem_cons_of_mem _ hx)) (rchLs_snd (hr r List.mem_cons_self) ha r.body (fun _ h => h) h)
theorem ReTo.snd {p : PP} {tg_ fr : Nat} {seen : List Bool} {todo : List Nat} {b : Bool} (h : ReTo p tg_ seen todo b) : (∀ q ∈ todo, Reach p fr q) → b = true → Reach p fr tg_ := by
  induction h with
  | no seen => intro _ h; cases h
  | yes seen todo => exact fun h _ => h _ (List.mem_append_right _ (List.mem_singleton.2 rfl))
  | go seen todo at_ b hne _ ih =>
    intro h hb
    exact ih (rchRs_snd (h _ (List.mem_append_right _ (List.mem_singleton.2 rfl))) p.rules (fun _ h => h) (fun q hq => h q (List.mem_append_left _ hq))) hb
theorem rchP_snd {p : PP} {fr tg_ : Nat} (h : rchP p fr tg_ true) : Reach p fr tg_ := h.snd (fun q hq => by rw [List.mem_singleton.1 hq]; exact .refl) rfl
/-! ### The search is complete -/
def isSe (X : List Bool × List Nat) (q : Nat) : Prop := X.1.getD q false = true
theorem set_isSe {seen : List Bool} {q k : Nat} (hq : q < seen.length) : (seen.set q true).getD k false = true ↔ k = q ∨ seen.getD k false = true := by
  rw [List.getD_eq_getElem?_getD, List.getElem?_set]
  split
  · rename_i e
    exact ⟨fun _ => .inl e.symm, fun _ => rfl⟩
  · rename_i e
    rw [← List.getD_eq_getElem?_getD]
    exact ⟨.inr, fun h => h.elim (fun h => absurd h.symm e) id⟩
/-- What one look does: what was seen stays, new ones lie on the pile, the head of a rule that speaks of at_ is seen. -/
theorem rchL_cmp {at_ h : Nat} {X : List Bool × List Nat} (hh : h < X.1.length) (l : PL) : (∀ k, isSe X k → isSe (rchL h at_ X l) k) ∧ (∀ k, isSe (rchL h at_ X l) k → isSe X k ∨ k ∈ (rchL h at_ X l).2) ∧ (∀ k ∈ X.2, k ∈ (rchL h at_ X l).2) ∧ (l.atom.pred = at_ → isSe (rchL h at_ X l) h) ∧ (rchL h at_ X l).1.length = X.1.length := by
  unfold rchL
  by_cases hc : l.atom.pred = at_ ∧ X.1.getD h false = false
  · rw [if_pos hc]
    refine ⟨fun k hk => (set_isSe hh).2 (.inr hk), fun k hk => ?_, fun k hk => List.mem_append_left _ hk, fun _ => (set_isSe hh).2 (.inl rfl), List.length_set ..⟩
    rcases (set_isSe hh).1 hk with e | e
    · exact .inr (List.mem_append_right _ (List.mem_singleton.2 e))
    · exact .inl e
  · rw [if_neg hc]
    refine ⟨fun k hk => hk, fun k hk => .inl hk, fun k hk => hk, fun e => ?_, rfl⟩
    cases hb : X.1.getD h false with
    | true => exact hb
    | false => exact absurd ⟨e, hb⟩ hc
theorem rchLs_cmp {at_ h : Nat} : ∀ (ls : List PL) {X : List Bool × List Nat}, h < X.1.length → (∀ k, isSe X k → isSe (ls.foldl (rchL h at_) X) k) ∧ (∀ k, isSe (ls.foldl (rchL h at_) X) k → isSe X k ∨ k ∈ (ls.foldl (rchL h at_) X).2) ∧ (∀ k ∈ X.2, k ∈ (ls.foldl (rchL h at_) X).2) ∧ (∀ l ∈ ls, l.atom.pred = at_ → isSe (ls.foldl (rchL h at_) X) h) ∧ (ls.foldl (rchL h at_) X).1.length = X.1.length
  | [], X, _ => ⟨fun _ h => h, fun _ h => .inl h, fun _ h => h, (fun l hl => by cases hl), rfl⟩
  | l :: ls, X, hh => by
    rw [List.foldl_cons]
    obtain ⟨a1, a2, a3, a4, a5⟩ := rchL_cmp (at_ := at_) hh l
    obtain ⟨b1, b2, b3, b4, b5⟩ := rchLs_cmp (at_ := at_) (h := h) ls (X := rchL h at_ X l) (by rw [a5]; exact hh)
    refine ⟨fun k hk => b1 k (a1 k hk), fun k hk => ?_, fun k hk => b3 k (a3 k hk), fun y hy e => ?_, b5.trans a5⟩
    · rcases b2 k hk with h | h
      · rcases a2 k h with h | h
        · exact .inl h
        · exact .inr (b3 k h)
      · exact .inr h
    · rcases List.mem_cons.1 hy with rfl | hy
      · exact b1 _ (a4 e)
      · exact b4 y hy e
theorem rchRs_cmp {at_ : Nat} : ∀ (rs : List PR) {X : List Bool × List Nat}, (∀ r ∈ rs, r.head.pred < X.1.length) → (∀ k, isSe X k → isSe (rs.foldl (rchR at_) X) k) ∧ (∀ k, isSe (rs.foldl (rchR at_) X) k → isSe X k ∨ k ∈ (rs.foldl (rchR at_) X).2) ∧ (∀ k ∈ X.2, k ∈ (rs.foldl (rchR at_) X).2) ∧ (∀ r ∈ rs, ∀ l ∈ r.body, l.atom.pred = at_ → isSe (rs.foldl (rchR at_) X) r.head.pred) ∧ (rs.foldl (rchR at_) X).1.length = X.1.length
  | [], X, _ => ⟨fun _ h => h, fun _ h => .inl h, fun _ h => h, (fun r hr => by cases hr), rfl⟩
  | r :: rs, X, hh => by
    rw [List.foldl_cons]
    obtain ⟨a1, a2, a3, a4, a5⟩ := rchLs_cmp (at_ := at_) r.body (hh r List.mem_cons_self)
    obtain ⟨b1, b2, b3, b4, b5⟩ := rchRs_cmp (at_ := at_) rs (X := rchR at_ X r) (fun y hy => by
      show y.head.pred < (r.body.foldl (rchL r.head.pred at_) X).1.length
      rw [a5]; exact hh y (List.mem_cons_of_mem _ hy))
    refine ⟨fun k hk => b1 k (a1 k hk), fun k hk => ?_, fun k hk => b3 k (a3 k hk), fun y hy l hl e => ?_, b5.trans a5⟩
    · rcases b2 k hk with h | h
      · rcases a2 k h with h | h
        · exact .inl h
        · exact .inr (b3 k h)
      · exact .inr h
    · rcases List.mem_cons.1 hy with rfl | hy
      · exact b1 _ (a4 l hl e)
      · exact b4 y hy l hl e
theorem ReTo.cmp {p : PP} {tg_ fr : Nat} (hl : ∀ r ∈ p.rules, r.head.pred < p.preds.length) {seen : List Bool} {todo : List Nat} {b : Bool} (h : ReTo p tg_ seen todo b) : b = false → seen.length = p.preds.length → seen.getD fr false = true → (∀ q, seen.getD q false = true → q ∈ todo ∨ (q ≠ tg_ ∧ ∀ r ∈ p.rules, ∀ l ∈ r.body, l.atom.pred = q → seen.getD r.head.pred false = true)) → ¬ Reach p fr tg_ := by
  induction h with
  | no seen =>
    intro _ hlen hfr hI hR
    have key : ∀ q, Reach p fr q → seen.getD q false = true := fun q hq => by
      induction hq with
      | refl => exact hfr
      | step r l hr hl _ ih =>
        rcases hI _ ih with h | ⟨_, h⟩
        · cases h
        · exact h r hr l hl rfl
    rcases hI _ (key _ hR) with h | ⟨h, _⟩
    · cases h
    · exact h rfl
  | yes seen todo => intro h; cases h
  | go seen todo at_ b hne _ ih =>
    intro hb hlen hfr hI
    obtain ⟨a1, a2, a3, a4, a5⟩ := rchRs_cmp (at_ := at_) p.rules (X := (seen, todo)) (fun r hr => by rw [show (seen, todo).1 = seen from rfl, hlen]; exact hl r hr)
    refine ih hb (a5.trans hlen) (a1 _ hfr) (fun q hq => ?_)
    rcases a2 q hq with h | h
    · rcases hI q h with h | ⟨h1, h2⟩
      · rcases List.mem_append.1 h with h | h
        · exact .inl (a3 q h)
        · have e := List.mem_singleton.1 h
          exact .inr ⟨by rw [e]; exact hne, fun r hr l hl9 e9 => a4 r hr l hl9 (e9.trans e)⟩
      · exact .inr ⟨h1, fun r hr l hl9 e9 => a1 _ (h2 r hr l hl9 e9)⟩
    · exact .inl h
theorem rchP_cmp {p : PP} {fr tg_ : Nat} (hl : ∀ r ∈ p.rules, r.head.pred < p.preds.length) (hf : fr < p.preds.length) (h : rchP p fr tg_ false) : ¬ Reach p fr tg_ := by
  have hlen : (List.replicate p.preds.length false).length = p.preds.length := List.length_replicate ..
  refine h.cmp hl rfl (by rw [List.length_set]; exact hlen) ((set_isSe (by rw [hlen]; exact hf)).2 (.inl rfl)) (fun q hq => .inl ?_)
  rcases (set_isSe (by rw [hlen]; exact hf)).1 hq with e | e
  · rw [e]; exact List.mem_singleton.2 rfl
  · rw [List.getD_eq_getElem?_getD, List.getElem?_replicate] at e
    split at e <;> cases e
/-! ### No cycle through a negation: strata below the number of predicates -/
def NoCyc (p : PP) : Prop := ∀ r ∈ p.rules, ∀ l ∈ r.body, l.neg = true → ¬ Reach p r.head.pred l.atom.pred
/-- A path with a negation. -/
def NegR (p : PP) (x q : Nat) : Prop := ∃ r ∈ p.rules, ∃ l ∈ r.body, l.neg = true ∧ Reach p x l.atom.pred ∧ Reach p r.head.pred q
open Classical in
noncomputable def rkN (p : PP) (q : Nat) : Nat := (List.range p.preds.length).countP (fun x => decide (NegR p x q))
open Classical in
theorem rk_pos {p : PP} {b h : Nat} (hs : ∀ x, Reach p x b → Reach p x h) (hp : Reach p b h) : rkN p b ≤ rkN p h := by
  unfold rkN
  apply List.countP_mono_left
  intro x _ hx
  rw [decide_eq_true_eq] at hx ⊢
  obtain ⟨r, hr, l, hl, hn, h1, h2⟩ := hx
  exact ⟨r, hr, l, hl, hn, h1, h2.trans hp⟩
theorem countP_lt' {α : Type} {f g : α → Bool} : ∀ {l : List α}, (∀ x ∈ l, f x = true → g x = true) → ∀ y ∈ l, f y = false → g y = true → l.countP f + 1 ≤ l.countP g
  | [], _, y, hy, _, _ => by cases hy
  | x :: l, h, y, hy, h1, h2 => by
    have hm : l.countP f ≤ l.countP g := List.countP_mono_left (fun z hz => h z (List.mem_cons_of_mem _ hz))
    rw [List.countP_cons, List.countP_cons]
    rcases List.mem_cons.1 hy with rfl | hy
    · rw [h1, h2]
      simp only [if_true, Bool.false_eq_true, if_false]
      omega
    · have ih := countP_lt' (fun z hz => h z (List.mem_cons_of_mem _ hz)) y hy h1 h2
      have h3 := h x List.mem_cons_self
      cases hf : f x with
      | true =>
        rw [h3 hf]
        omega
      | false =>
        simp only [Bool.false_eq_true, if_false]
        omega
open Classical in
theorem rk_neg {p : PP} (hc : NoCyc p) {r : PR} (hr : r ∈ p.rules) {l : PL} (hl : l ∈ r.body) (hn : l.neg = true) (hb : l.atom.pred < p.preds.length) : rkN p l.atom.pred + 1 ≤ rkN p r.head.pred := by
  unfold rkN
  refine countP_lt' (fun x _ hx => ?_) l.atom.pred (List.mem_range.2 hb) ?_ ?_
  · rw [decide_eq_true_eq] at hx ⊢
    obtain ⟨r', hr', l', hl', hn', h1, h2⟩ := hx
    exact ⟨r', hr', l', hl', hn', h1, .step r l hr hl h2⟩
  · rw [decide_eq_false_iff_not]
    rintro ⟨r', hr', l', hl', hn', h1, h2⟩
    exact hc r' hr' l' hl' hn' (h2.trans h1)
  · rw [decide_eq_true_eq]
    exact ⟨r, hr, l, hl, hn, .refl, .refl⟩
open Classical in
theorem rk_lt {p : PP} (hc : NoCyc p) {q : Nat} (hq : q < p.preds.length) : rkN p q < p.preds.length := by
  unfold rkN
  have h1 := countP_lt' (l := List.range p.preds.length) (f := fun x => decide (NegR p x q)) (g := fun _ => true) (fun _ _ _ => rfl) q (List.mem_range.2 hq) (by
    rw [decide_eq_false_iff_not]
    rintro ⟨r', hr', l', hl', hn', h1, h2⟩
    exact hc r' hr' l' hl' hn' (h2.trans h1)) rfl
  have h2 := List.countP_le_length (p := fun _ : Nat => true) (l := List.range p.preds.length)
  rw [List.length_range] at h2
  omega
/-- The strata keep below the ranks. -/
def Blw (p : PP) (ps : List PredInfo) : Prop := ∀ q, stO ps q ≤ (rkN p q : Int)
theorem stO_put {ps : List PredInfo} {q : Nat} {v : Int} {k : Nat} : stO (stP ps q v) k = if k = q ∧ q < ps.length then v else stO ps k := by
  unfold stO stP
  rw [List.getD_eq_getElem?_getD, List.getElem?_set]
  by_cases e : q = k
  · subst e
    rw [if_pos rfl]
    by_cases h : q < ps.length
    · rw [if_pos h, if_pos ⟨rfl, h⟩]; rfl
    · rw [if_neg h, if_neg (fun h9 => h h9.2), List.getD_eq_getElem?_getD, List.getElem?_eq_none (by omega)]
  · rw [if_neg e, if_neg (fun h9 => e h9.1.symm), ← List.getD_eq_getElem?_getD]
theorem stL_blw {p : PP} (hc : NoCyc p) (hb : ∀ r ∈ p.rules, ∀ l ∈ r.body, l.atom.pred < p.preds.length) {r : PR} (hr : r ∈ p.rules) {l : PL} (hl : l ∈ r.body) {X : List PredInfo × Bool} (h : Blw p X.1) : Blw p (stL r.head.pred X l).1 := by
  unfold stL
  split
  · intro q
    show stO (stP X.1 r.head.pred (lea X.1 l)) q ≤ _
    rw [stO_put]
    split
    · rename_i e
      rw [e.1]
      unfold lea
      have h1 := h l.atom.pred
      cases hn : l.neg with
      | true =>
        have h2 := rk_neg hc hr hl hn (hb r hr l hl)
        simp only [if_true]
        omega
      | false =>
        have h2 := rk_pos (p := p) (b := l.atom.pred) (h := r.head.pred) (fun x hx => .step r l hr hl hx) (.step r l hr hl .refl)
        simp only [Bool.false_eq_true, if_false]
        omega
    · exact h q
  · exact h
theorem stLs_blw {p : PP} (hc : NoCyc p) (hb : ∀ r ∈ p.rules, ∀ l ∈ r.body, l.atom.pred < p.preds.length) {r : PR} (hr : r ∈ p.rules) : ∀ (ls : List PL) {X : List PredInfo × Bool}, (∀ l ∈ ls, l ∈ r.body) → Blw p X.1 → Blw p (ls.foldl (stL r.head.pred) X).1
  | [], _, _, h => h
  | l :: ls, X, hl, h => by
    rw [List.foldl_cons]
    exact stLs_blw hc hb hr ls (fun x hx => hl x (List.mem_cons_of_mem _ hx)) (stL_blw hc hb hr (hl l List.mem_cons_self) h)
theorem stRd_blw {p : PP} (hc : NoCyc p) (hb : ∀ r ∈ p.rules, ∀ l ∈ r.body, l.atom.pred < p.preds.length) (hh : ∀ r ∈ p.rules, r.head.pred < p.preds.length) : ∀ (rs : List PR) {X : List PredInfo × Bool}, (∀ r ∈ rs, r ∈ p.rules) → Blw p X.1 → ∃ Y, stRd p.preds.length rs X = some Y ∧ Blw p Y.1
  | [], X, _, h => ⟨X, rfl, h⟩
  | r :: rs, X, hr, h => by
    have h1 := stLs_blw hc hb (hr r List.mem_cons_self) r.body (fun _ h => h) h
    have h2 := h1 r.head.pred
    have h3 := rk_lt hc (hh r (hr r List.mem_cons_self))
    unfold stRd
    rw [if_neg (by
      show ¬ ((p.preds.length : Int) ≤ stO (r.body.foldl (stL r.head.pred) X).1 r.head.pred)
      omega)]
    exact stRd_blw hc hb hh rs (fun x hx => hr x (List.mem_cons_of_mem _ hx)) h1
theorem StTo.some_of {p : PP} (hc : NoCyc p) (hb : ∀ r ∈ p.rules, ∀ l ∈ r.body, l.atom.pred < p.preds.length) (hh : ∀ r ∈ p.rules, r.head.pred < p.preds.length) {ps : List PredInfo} {res : Option (List PredInfo)} (h : StTo p.preds.length p.rules ps res) : Blw p ps → res ≠ none := by
  induction h with
  | bad h1 =>
    intro hB
    obtain ⟨Y, h2, _⟩ := stRd_blw hc hb hh p.rules (X := (_, false)) (fun _ h => h) hB
    rw [h1] at h2; cases h2
  | more h1 _ ih =>
    intro hB
    obtain ⟨Y, h2, h3⟩ := stRd_blw hc hb hh p.rules (X := (_, false)) (fun _ h => h) hB
    rw [h1] at h2
    cases h2
    exact ih h3
  | done h1 => intro _ h; cases h
/-! ### Strata that stand -/
theorem stL_id {q : Nat} {X : List PredInfo × Bool} {l : PL} (h : (stL q X l).2 = false) : stL q X l = X ∧ lea X.1 l ≤ stO X.1 q := by
  unfold stL at h ⊢
  split at h
  · cases h
  · rename_i h1
    rw [if_neg h1]
    exact ⟨rfl, by omega⟩
theorem stLs_id {q : Nat} : ∀ (ls : List PL) {X : List PredInfo × Bool}, (ls.foldl (stL q) X).2 = false → ls.foldl (stL q) X = X ∧ ∀ l ∈ ls, lea X.1 l ≤ stO X.1 q
  | [], X, _ => ⟨rfl, fun l hl => by cases hl⟩
  | l :: ls, X, h => by
    rw [List.foldl_cons] at h ⊢
    obtain ⟨h1, h2⟩ := stLs_id ls h
    have h3 : (stL q X l).2 = false := by rw [h1] at h; exact h
    obtain ⟨h4, h5⟩ := stL_id h3
    rw [h4] at h1 h2 ⊢
    refine ⟨h1, fun y hy => ?_⟩
    rcases List.mem_cons.1 hy with rfl | hy
    · exact h5
    · exact h2 y hy
theorem stRd_id {n : Nat} : ∀ (rs : List PR) {X : List PredInfo × Bool} {ps' : List PredInfo}, stRd n rs X = some (ps', false) → ps' = X.1 ∧ ∀ r ∈ rs, ∀ l ∈ r.body, lea X.1 l ≤ stO X.1 r.head.pred
  | [], X, ps', h => by
    have e := Option.some.inj h
    exact ⟨by rw [e], fun r hr => by cases hr⟩
  | r :: rs, X, ps', h => by
    unfold stRd at h
    split at h
    · cases h
    · obtain ⟨h1, h2⟩ := stRd_id rs h
      have h3 : (stR X r).2 = false := by
        have mono : ∀ (rs : List PR) (X : List PredInfo × Bool) (Y : List PredInfo × Bool), stRd n rs X = some Y → X.2 = true → Y.2 = true := by
          intro rs
          induction rs with
          | nil => intro X Y h hx; cases h; exact hx
          | cons r rs ih =>
            intro X Y h hx
            unfold stRd at h
            split at h
            · cases h
            · refine ih _ Y h ?_
              have : ∀ (ls : List PL) (X : List PredInfo × Bool), X.2 = true → (ls.foldl (stL r.head.pred) X).2 = true := by
                intro ls
                induction ls with
                | nil => exact fun X h => h
                | cons l ls ih =>
                  intro X h
                  rw [List.foldl_cons]
                  refine ih _ ?_
                  unfold stL
                  split
                  · rfl
                  · exact h
              exact this r.body X hx
        cases hb : (stR X r).2 with
        | false => rfl
        | true => have h9 := mono rs _ _ h hb; cases h9
      obtain ⟨h4, h5⟩ := stLs_id r.body h3
      have h4' : stR X r = X := h4
      rw [h4'] at h1 h2
      refine ⟨h1, fun y hy => ?_⟩
      rcases List.mem_cons.1 hy with rfl | hy
      · exact h5
      · exact h2 y hy
theorem StTo.fix {n : Nat} {rs : List PR} {ps : List PredInfo} {res : Option (List PredInfo)} (h : StTo n rs ps res) : ∀ ps', res = some ps' → ∀ r ∈ rs, ∀ l ∈ r.body, lea ps' l ≤ stO ps' r.head.pred := by
  induction h with
  | bad _ => intro _ h; cases h
  | more _ _ ih => exact ih
  | done h1 =>
    intro ps' e
    cases e
    obtain ⟨h2, h3⟩ := stRd_id rs h1
    rw [h2]
    exact h3
theorem fix_nocyc {p : PP} {ps : List PredInfo} (h : ∀ r ∈ p.rules, ∀ l ∈ r.body, lea ps l ≤ stO ps r.head.pred) : NoCyc p := fun r hr l hl hn hR => by
  have up : ∀ x y, Reach p x y → stO ps x ≤ stO ps y := fun x y hxy => by
    induction hxy with
    | refl => exact Int.le_refl _
    | step r l hr hl _ ih =>
      have h1 := h r hr l hl
      unfold lea at h1
      split at h1 <;> omega
  have h1 := h r hr l hl
  unfold lea at h1
  rw [hn] at h1
  simp only [if_true] at h1
  have h2 := up _ _ hR
  omega
theorem maxS_le : ∀ (ps : List PredInfo) (m : Int), m ≤ ps.foldl (fun s y => if s < y.stratum + 1 then y.stratum + 1 else s) m ∧ ∀ y ∈ ps, y.stratum + 1 ≤ ps.foldl (fun s y => if s < y.stratum + 1 then y.stratum + 1 else s) m
  | [], m => ⟨Int.le_refl _, fun y hy => by cases hy⟩
  | x :: ps, m => by
    rw [List.foldl_cons]
    obtain ⟨h1, h2⟩ := maxS_le ps (if m < x.stratum + 1 then x.stratum + 1 else m)
    have h3 : m ≤ (if m < x.stratum + 1 then x.stratum + 1 else m) ∧ x.stratum + 1 ≤ (if m < x.stratum + 1 then x.stratum + 1 else m) := by split <;> omega
    refine ⟨by omega, fun y hy => ?_⟩
    rcases List.mem_cons.1 hy with rfl | hy
    · omega
    · exact h2 y hy
/-- The strata of a verified policy: negations look down, heads lie below the top. -/
theorem verR_strata {p p' : PP} (h : VerR p 0 p') (hl : ∀ r ∈ p.rules, r.head.pred < p.preds.length) : NegS p' ∧ TopS p' := by
  rcases h with ⟨h1, h2⟩ | ⟨h1, res, h2, h3⟩
  · exact absurd h2.symm h1
  · rcases h3 with ⟨-, h4⟩ | ⟨ps, rfl, h5, h6, -, rfl⟩
    · cases h4
    · have hfix := h2.fix ps rfl
      refine ⟨fun r hr l hl9 hn e => ?_, fun r hr => ?_⟩
      · have h7 := hfix r hr l hl9
        unfold lea at h7
        rw [hn] at h7
        simp only [if_true] at h7
        have e' : stO ps l.atom.pred = stO ps r.head.pred := e
        omega
      · have h8 := (maxS_le ps 1).2 (pI ⟨p.pool, ps, p.rules, maxS ps⟩ r.head.pred) (List.mem_of_getElem? (pI_at (p := ⟨p.pool, ps, p.rules, maxS ps⟩) (by show r.head.pred < ps.length; rw [h5]; exact hl r hr)))
        have h8' : (pI ⟨p.pool, ps, p.rules, maxS ps⟩ r.head.pred).stratum + 1 ≤ maxS ps := h8
        show (pI ⟨p.pool, ps, p.rules, maxS ps⟩ r.head.pred).stratum < maxS ps
        omega
theorem rlB_preds {p : PP} (h : p.rules.all (rlB p) = true) : (∀ r ∈ p.rules, r.head.pred < p.preds.length) ∧ ∀ r ∈ p.rules, ∀ l ∈ r.body, l.atom.pred < p.preds.length := by
  have h1 : ∀ r ∈ p.rules, rlB p r = true := List.all_eq_true.1 h
  refine ⟨fun r hr => ?_, fun r hr l hl => ?_⟩
  · have h2 := h1 r hr
    unfold rlB at h2
    rw [Bool.and_eq_true] at h2
    exact atB_pred h2.1
  · have h2 := h1 r hr
    unfold rlB at h2
    rw [Bool.and_eq_true] at h2
    exact atB_pred (List.all_eq_true.1 h2.2 l hl)
/-- The two verdicts agree. -/
theorem ac_ver {p p' : PP} {c c' : Int} (hd : DecOk p) (ha : AcR p c) (hv : VerR p c' p') : c = c' := by
  have hbas : ∀ b, p.rules.any (basH p) = b → p.rules.all (fun r => !(pI p r.head.pred).base) = !b := fun b h => by
    rw [← h]
    have : ∀ rs : List PR, rs.all (fun r => !(pI p r.head.pred).base) = !(rs.any (basH p)) := fun rs => by
      induction rs with
      | nil => rfl
      | cons r rs ih => rw [List.all_cons, List.any_cons, ih]; unfold basH; cases (pI p r.head.pred).base <;> rfl
    exact this _
  have v0 : limB p = true → p.rules.all (rlB p) = true → p.rules.any (basH p) = false → p.rules.all resB = true → verC p = 0 := fun h1 h2 h3 h4 => by
    unfold verC
    rw [if_neg (by rw [h1]; decide), if_neg (by rw [h2]; decide), if_neg (by rw [hbas _ h3]; decide), if_neg (by rw [h4]; decide)]
  have bad : ∀ n : Int, n ≠ 0 → verC p = n → n = c' := fun n hn h => by
    rcases hv with ⟨h1, h2⟩ | ⟨h1, -⟩
    · rw [h2, h]
    · exact absurd (h.symm.trans h1) hn
  have blw0 : Blw p p.preds := fun q => by
    have h1 : stO p.preds q = 0 := by
      unfold stO
      rw [List.getD_eq_getElem?_getD]
      cases hx : p.preds[q]? with
      | none => rfl
      | some y => exact (hd.preds.2 y (List.mem_of_getElem? hx)).1
    rw [h1]; omega
  cases ha with
  | lim h1 => exact bad 24 (by decide) (by unfold verC; rw [if_pos h1])
  | fit h1 h2 => exact bad 25 (by decide) (by unfold verC; rw [if_neg (by rw [h1]; decide), if_pos h2])
  | bas h1 h2 h3 => exact bad 26 (by decide) (by unfold verC; rw [if_neg (by rw [h1]; decide), if_neg (by rw [h2]; decide), if_pos (by rw [hbas _ h3]; rfl)])
  | rng h1 h2 h3 h4 => exact bad 27 (by decide) (by unfold verC; rw [if_neg (by rw [h1]; decide), if_neg (by rw [h2]; decide), if_neg (by rw [hbas _ h3]; decide), if_pos h4])
  | cyc r l h1 h2 h3 h4 hr hl hcy =>
    rcases hv with ⟨g1, -⟩ | ⟨-, res, g2, g3⟩
    · exact absurd (v0 h1 h2 h3 h4) g1
    · rcases g3 with ⟨-, g4⟩ | ⟨ps, rfl, -, -, g4, -⟩
      · exact g4.symm
      · exfalso
        have hc := fix_nocyc (g2.fix ps rfl)
        unfold cyR at hcy
        by_cases hn : l.neg = true
        · rw [if_pos hn] at hcy
          exact hc r hr l hl hn (rchP_snd hcy)
        · rw [if_neg hn] at hcy; cases hcy
  | ok h1 h2 h3 h4 hno =>
    obtain ⟨hh, hb⟩ := rlB_preds h2
    rcases hv with ⟨g1, -⟩ | ⟨-, res, g2, g3⟩
    · exact absurd (v0 h1 h2 h3 h4) g1
    · rcases g3 with ⟨g4, -⟩ | ⟨ps, -, -, -, g4, -⟩
      · exfalso
        refine StTo.some_of (fun r hr l hl hn => ?_) hb hh g2 blw0 g4
        have h9 := hno r hr l hl
        unfold cyR at h9
        rw [if_pos hn] at h9
        exact rchP_cmp hh (hh r hr) h9
      · exact g4.symm
end Go.Proofs.Qxb6500787aGreat
