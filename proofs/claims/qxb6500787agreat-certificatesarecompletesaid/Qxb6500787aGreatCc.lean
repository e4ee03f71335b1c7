import Derived.Test.Qxb6500787aGreatCb

import Derived.StillTailTactics
import Derived.Deep.QuietTactic
import Derived.BigQuiet
import Derived.Deep.RegionHeld
import Derived.Deep.CutRange
import Derived.Laws.ResultCell
import Derived.Laws.Rows
import Derived.DeepKeys
import Derived.DataBytes
import Derived.Laws.StructEq
import Derived.Laws.AppendOwn
import Derived.Laws.MakeOwn
import Derived.Lib.AppendStr
set_option linter.unusedSimpArgs false
set_option linter.unusedVariables false
namespace Go.Proofs.Qxb6500787aGreat
open Go.RowKit Go.Blk
attribute [local go_sem ↓] execOp_load execOp_store execOp_alloc
attribute [local go_sem] Tryz.ld26 Tryz.st26 Tryz.ld27 Tryz.st27 Tryz.ld28 Tryz.st28 Tryz.ld3 Tryz.st3 Tryz.ld29 Tryz.st29 Tryz.ld44 Tryz.st44 Tryz.ld4 Tryz.st4 Tryz.ld50 Tryz.st50 Tryz.ld32 Tryz.st32 Tryz.ld49 Tryz.st49 Tryz.ld68 Tryz.st68 Tryz.ld9 Tryz.st9 Tryz.ld40 Tryz.st40 Tryz.ld138 Tryz.st138 Tryz.ld139 Tryz.st139 Tryz.ld146 Tryz.st146 Tryz.ld183 Tryz.st183 Tryz.ld184 Tryz.st184 Tryz.ld192 Tryz.st192 Tryz.ld195 Tryz.st195 Tryz.ld217 Tryz.st217 Tryz.ld159 Tryz.st159 Tryz.ld142 Tryz.st142 Tryz.ld2 Tryz.st2 Tryz.ld5 Tryz.st5 Tryz.ld12 Tryz.st12 Tryz.ld21 Tryz.st21 Tryz.ld22 Tryz.st22 Tryz.ld24 Tryz.st24 Tryz.ld58 Tryz.st58 Tryz.ld97 Tryz.st97 Tryz.ld101 Tryz.st101 Tryz.ld116 Tryz.st116 Tryz.ld121 Tryz.st121 Tryz.ld135 Tryz.st135 Tryz.ld136 Tryz.st136 Tryz.ld143 Tryz.st143 Tryz.ld148 Tryz.st148 Tryz.ld154 Tryz.st154 Tryz.ld173 Tryz.st173 Tryz.ld187 Tryz.st187 Tryz.ld222 Tryz.st222 Tryz.ld241 Tryz.st241 Tryz.ld248 Tryz.st248 Tryz.ld268 Tryz.st268 Tryz.ld272 Tryz.st272 Tryz.ld153 Tryz.st153 Tryz.ld255 Tryz.st255 Tryz.ld256 Tryz.st256 Tryz.ld129 Tryz.st129 Tryz.ld152 Tryz.st152 Tryz.ld31 Tryz.st31 Tryz.ld46 Tryz.st46 Tryz.ld52 Tryz.st52 Tryz.ld54 Tryz.st54 Tryz.ld60 Tryz.st60 Tryz.ld70 Tryz.st70 Tryz.ld74 Tryz.st74 Tryz.ld93 Tryz.st93 Tryz.ld141 Tryz.st141 Tryz.ld151 Tryz.st151 Tryz.ld170 Tryz.st170 Tryz.ld186 Tryz.st186 Tryz.ld189 Tryz.st189 Tryz.ld194 Tryz.st194 Tryz.ld197 Tryz.st197 Tryz.ld219 Tryz.st219 Tryz.ld224 Tryz.st224 Tryz.ld230 Tryz.st230 Tryz.ld235 Tryz.st235 Tryz.ld243 Tryz.st243 Tryz.ld247 Tryz.st247 Tryz.ld252 Tryz.st252 Tryz.ld258 Tryz.st258 Tryz.al153 Tryz.al255 Tryz.al256 Tryz.al129 Tryz.al152 Tryz.al31 Tryz.al46 Tryz.al52 Tryz.al54 Tryz.al60 Tryz.al70 Tryz.al74 Tryz.al93 Tryz.al141 Tryz.al151 Tryz.al170 Tryz.al186 Tryz.al189 Tryz.al194 Tryz.al197 Tryz.al219 Tryz.al224 Tryz.al230 Tryz.al235 Tryz.al243 Tryz.al247 Tryz.al252 Tryz.al258
attribute [local go_sem] Request.length_enc Request.ok_enc Request.all_get Request.all_set Request.kind_get Request.kind_set Request.blob_get Request.blob_set Request.items_get Request.items_set Request.pred_get Request.pred_set Request.slots_get Request.slots_set Trace.length_enc Trace.ok_enc Trace.all_get Trace.all_set Trace.op_get Trace.op_set Trace.calls_get Trace.calls_set Item.length_enc Item.ok_enc Item.all_get Item.all_set Item.del_get Item.del_set Item.pred_get Item.pred_set Item.args_get Item.args_set Reply.length_enc Reply.ok_enc Reply.all_get Reply.all_set Reply.code_get Reply.code_set Reply.kind_get Reply.kind_set Reply.index_get Reply.index_set Reply.yes_get Reply.yes_set Reply.preds_get Reply.preds_set Reply.rules_get Reply.rules_set Reply.arity_get Reply.arity_set Reply.rows_get Reply.rows_set Reply.fact_get Reply.fact_set Reply.fact_del_get Reply.fact_del_set Reply.fact_pred_get Reply.fact_pred_set Reply.fact_args_get Reply.fact_args_set GEntry.length_enc GEntry.ok_enc GEntry.all_get GEntry.all_set GEntry.seq_get GEntry.seq_set GEntry.kind_get GEntry.kind_set GEntry.code_get GEntry.code_set GOp.length_enc GOp.ok_enc GOp.all_get GOp.all_set GOp.kind_get GOp.kind_set GOp.raw_get GOp.raw_set Reader.length_enc Reader.ok_enc Reader.all_get Reader.all_set Reader.buf_get Reader.buf_set Reader.at__get Reader.at__set Slot.length_enc Slot.ok_enc Slot.all_get Slot.all_set Slot.bound_get Slot.bound_set Slot.name_get Slot.name_set Session.length_enc Session.ok_enc Session.all_get Session.all_set Session.svc_get Session.svc_set Session.buf_get Session.buf_set Session.closed_get Session.closed_set GProgram.length_enc GProgram.ok_enc GProgram.all_get GProgram.all_set GProgram.pool_get GProgram.pool_set GProgram.preds_get GProgram.preds_set GProgram.rules_get GProgram.rules_set GProgram.strata_get GProgram.strata_set PredInfo.length_enc PredInfo.ok_enc PredInfo.all_get PredInfo.all_set PredInfo.arity_get PredInfo.arity_set PredInfo.base_get PredInfo.base_set PredInfo.stratum_get PredInfo.stratum_set Change.length_enc Change.ok_enc Change.all_get Change.all_set Change.del_get Change.del_set Change.pred_get Change.pred_set Change.t_get Change.t_set Store.length_enc Store.ok_enc Store.all_get Store.all_set Store.names_get Store.names_set Store.arity_get Store.arity_set Store.rows_get Store.rows_set Src.length_enc Src.ok_enc Src.all_get Src.all_set Src.b_get Src.b_set Src.at__get Src.at__set Atom.length_enc Atom.ok_enc Atom.all_get Atom.all_set Atom.pred_get Atom.pred_set Atom.args_get Atom.args_set GRule.length_enc GRule.ok_enc GRule.all_get GRule.all_set GRule.head_get GRule.head_set GRule.body_get GRule.body_set GRule.head_pred_get GRule.head_pred_set GRule.head_args_get GRule.head_args_set Cert.length_enc Cert.ok_enc Cert.all_get Cert.all_set Cert.names_get Cert.names_set Cert.nodes_get Cert.nodes_set Fact.length_enc Fact.ok_enc Fact.all_get Fact.all_set Fact.pred_get Fact.pred_set Fact.t_get Fact.t_set Literal.length_enc Literal.ok_enc Literal.all_get Literal.all_set Literal.neg_get Literal.neg_set Literal.atom_get Literal.atom_set Literal.atom_pred_get Literal.atom_pred_set Literal.atom_args_get Literal.atom_args_set Engine.length_enc Engine.ok_enc Engine.all_get Engine.all_set Engine.prog_get Engine.prog_set Engine.st_get Engine.st_set SrcCertm.length_enc SrcCertm.ok_enc SrcCertm.all_get SrcCertm.all_set SrcCertm.b_get SrcCertm.b_set SrcCertm.at__get SrcCertm.at__set GNode.length_enc GNode.ok_enc GNode.all_get GNode.all_set GNode.rule_get GNode.rule_set GNode.pred_get GNode.pred_set GNode.vals_get GNode.vals_set GNode.refs_get GNode.refs_set Term.length_enc Term.ok_enc Term.all_get Term.all_set Term.var_get Term.var_set Term.n_get Term.n_set Env.length_enc Env.ok_enc Env.all_get Env.all_set Env.val_get Env.val_set Env.set_get Env.set_set
attribute [local go_sem] size_put size_ext blk_put free_put blk_alloc free_alloc blk_drew free_drew blk_ext free_ext lookOr_some putOr_some segAt_some cellAt_some storeIn_some put_put put_alloc_new length_arr ok_arr_u8 ok_arr_u32 ok_arr_u64 ok_arr_i64 ok_arr_sl cellsV_agg cellsV_int cellsV_bool cellsV_string cellsV_pointer cellsV_slice cellsV_sl ok_int ok_bool ok_string ok_pointer ok_slice ok_sl toList_arr seg_arr set_arr nth_splice nth_splice0 seg_splice seg_splice0 splice_splice splice_splice0 length_splice_if
attribute [local go_sem ↓] execOp_box
attribute [local go_sem] box_run nth_arr_u8 put_arr_u8 blk_drewN free_drewN put_drewN blk_raw free_raw
/-- What follows in a stratum from what stands below it. -/
inductive Der {α β : Type} (g : PA → (Nat → β) → α) (p : PP) (M : Nat → α → Prop) (s : Nat) : Nat → α → Prop where
  | old (q : Nat) (x : α) : M q x → Der g p M s q x
  | rule (r : PR) (σ : Nat → β) : r ∈ p.rules → (pI p r.head.pred).stratum = (s : Int) → (∀ z ∈ r.body, z.neg = false → Der g p M s z.atom.pred (g z.atom σ)) → (∀ z ∈ r.body, z.neg = true → ¬ M z.atom.pred (g z.atom σ)) → Der g p M s r.head.pred (g r.head σ)
/-- The least model, stratum by stratum. -/
def LM {α β : Type} (g : PA → (Nat → β) → α) (p : PP) (B : Nat → α → Prop) : Nat → Nat → α → Prop
  | 0 => B
  | s + 1 => Der g p (LM g p B s) s
theorem LM.up {α β : Type} {g : PA → (Nat → β) → α} {p : PP} {B : Nat → α → Prop} {s q : Nat} {x : α} (h : LM g p B s q x) : LM g p B (s + 1) q x := Der.old q x h
theorem LM.le {α β : Type} {g : PA → (Nat → β) → α} {p : PP} {B : Nat → α → Prop} {q : Nat} {x : α} {s t : Nat} (h : LM g p B s q x) (hst : s ≤ t) : LM g p B t q x := by
  induction t with
  | zero =>
    obtain rfl : s = 0 := by omega
    exact h
  | succ t ih =>
    by_cases e : s = t + 1
    · rw [← e]; exact h
    · exact LM.up (ih (by omega))
/-- A stratum adds nothing to predicates of other strata. -/
theorem lm_other {α β : Type} {g : PA → (Nat → β) → α} {p : PP} {B : Nat → α → Prop} {s q : Nat} {x : α} (hq : (pI p q).stratum ≠ (s : Int)) (h : LM g p B (s + 1) q x) : LM g p B s q x := by
  cases h with
  | old _ _ h => exact h
  | rule r σ _ hs _ _ => exact absurd hs hq
/-- A negated literal speaks of another stratum than the head. -/
def NegS (p : PP) : Prop := ∀ r ∈ p.rules, ∀ z ∈ r.body, z.neg = true → (pI p z.atom.pred).stratum ≠ (pI p r.head.pred).stratum
/-- The body of a rule holds in a set. -/
def BodG {α β : Type} (g : PA → (Nat → β) → α) (R : Nat → α → Prop) (r : PR) (σ : Nat → β) : Prop := (∀ z ∈ r.body, z.neg = false → R z.atom.pred (g z.atom σ)) ∧ ∀ z ∈ r.body, z.neg = true → ¬ R z.atom.pred (g z.atom σ)
/-- Between two strata. -/
structure Btw {α β : Type} (g : PA → (Nat → β) → α) (p : PP) (B : Nat → α → Prop) (s : Nat) (R : Nat → α → Prop) : Prop where
  snd : ∀ q x, R q x → LM g p B (s + 1) q x
  cmp : ∀ q x, LM g p B s q x → R q x
theorem Btw.der {α β : Type} {g : PA → (Nat → β) → α} {p : PP} {B : Nat → α → Prop} {s : Nat} {R : Nat → α → Prop} (h : Btw g p B s R) {r : PR} (hr : r ∈ p.rules) (hs : (pI p r.head.pred).stratum = (s : Int)) {σ : Nat → β} (hb : BodG g R r σ) : LM g p B (s + 1) r.head.pred (g r.head σ) :=
  Der.rule r σ hr hs (fun z hz hn => h.snd _ _ (hb.1 z hz hn)) (fun z hz hn hm => hb.2 z hz hn (h.cmp _ _ hm))
/-- What is closed under the rules of the stratum is all of it. -/
theorem Btw.all {α β : Type} {g : PA → (Nat → β) → α} {p : PP} {B : Nat → α → Prop} {s : Nat} {R : Nat → α → Prop} (h : Btw g p B s R) (hN : NegS p) (hc : ∀ r ∈ p.rules, (pI p r.head.pred).stratum = (s : Int) → ∀ σ, BodG g R r σ → R r.head.pred (g r.head σ)) : ∀ q x, LM g p B (s + 1) q x → R q x := by
  intro q x hx
  induction hx with
  | old q x h9 => exact h.cmp q x h9
  | rule r σ hr hs _ hneg ih =>
    refine hc r hr hs σ ⟨fun z hz hn => ih z hz hn, fun z hz hn hR => hneg z hz hn ?_⟩
    exact lm_other (fun e => hN r hr z hz hn (e.trans hs.symm)) (h.snd _ _ hR)
theorem Btw.nx {α β : Type} {g : PA → (Nat → β) → α} {p : PP} {B : Nat → α → Prop} {s : Nat} {R : Nat → α → Prop} (h : Btw g p B s R) (hc : ∀ q x, LM g p B (s + 1) q x → R q x) : Btw g p B (s + 1) R := ⟨fun q x hx => LM.up (h.snd q x hx), hc⟩
/-- The rows as a set. -/
def memI (R : List (List Tup)) (q : Nat) (t : Tup) : Prop := t ∈ rowsAt R q
theorem memI_add {R : List (List Tup)} {h q : Nat} {t u : Tup} (hh : h < R.length) : memI (addR R h t) q u ↔ memI R q u ∨ (q = h ∧ u = t) := by
  unfold memI
  by_cases e : q = h
  · subst e
    have h9 : rowsAt (addR R q t) q = rowsAt R q ++ [t] := by
      unfold addR
      conv => lhs; unfold rowsAt
      rw [List.getD_eq_getElem?_getD, List.getElem?_set_self hh]; rfl
    rw [h9, List.mem_append, List.mem_singleton]
    exact ⟨fun h8 => h8.elim .inl (fun e => .inr ⟨rfl, e⟩), fun h8 => h8.elim .inl (fun e => .inr e.2)⟩
  · rw [rowsAt_addR R h t e]
    exact ⟨.inl, fun h8 => h8.elim id (fun h7 => absurd h7.1 e)⟩
theorem addR_len (R : List (List Tup)) (q : Nat) (t : Tup) : (addR R q t).length = R.length := List.length_set ..
theorem foldT_len {h : Nat} : ∀ (ts : List Tup) (X : List (List Tup) × Bool), (ts.foldl (stepT h) X).1.length = X.1.length
  | [], X => rfl
  | t :: ts, X => by
    rw [List.foldl_cons, foldT_len ts]
    unfold stepT
    split
    · rfl
    · exact addR_len _ _ _
theorem foldT_mem {h : Nat} : ∀ (ts : List Tup) (X : List (List Tup) × Bool), h < X.1.length → ∀ q u, memI (ts.foldl (stepT h) X).1 q u ↔ memI X.1 q u ∨ (q = h ∧ u ∈ ts)
  | [], X, _, q, u => by simp
  | t :: ts, X, hh, q, u => by
    rw [List.foldl_cons]
    have hl : h < (stepT h X t).1.length := by
      unfold stepT
      split
      · exact hh
      · rw [addR_len]; exact hh
    rw [foldT_mem ts _ hl q u]
    have h1 : memI (stepT h X t).1 q u ↔ memI X.1 q u ∨ (q = h ∧ u = t) := by
      unfold stepT
      split
      · rename_i hm
        exact ⟨.inl, fun h8 => h8.elim id (fun h7 => by rw [h7.1, h7.2]; exact hm)⟩
      · exact memI_add hh
    rw [h1, List.mem_cons]
    constructor
    · rintro ((h | h) | h)
      · exact .inl h
      · exact .inr ⟨h.1, .inl h.2⟩
      · exact .inr ⟨h.1, .inr h.2⟩
    · rintro (h | ⟨h1, h2 | h2⟩)
      · exact .inl (.inl h)
      · exact .inl (.inr ⟨h1, h2⟩)
      · exact .inr ⟨h1, h2⟩
theorem foldT_no {h : Nat} : ∀ (ts : List Tup) (X : List (List Tup) × Bool), (ts.foldl (stepT h) X).2 = false → ts.foldl (stepT h) X = X ∧ ∀ t ∈ ts, t ∈ rowsAt X.1 h
  | [], X, _ => ⟨rfl, fun t ht => by cases ht⟩
  | t :: ts, X, hf => by
    rw [List.foldl_cons] at hf ⊢
    obtain ⟨h1, h2⟩ := foldT_no ts _ hf
    have hst : (stepT h X t).2 = false := by rw [h1] at hf; exact hf
    unfold stepT at h1 h2 hst ⊢
    by_cases hm : t ∈ rowsAt X.1 h
    · rw [if_pos hm] at h1 h2 ⊢
      refine ⟨h1, fun u hu => ?_⟩
      rcases List.mem_cons.1 hu with rfl | hu
      · exact hm
      · exact h2 u hu
    · rw [if_neg hm] at hst
      cases hst
/-- A round of the service's engine. -/
theorem rnd_btw {p : PP} {D : Int → Prop} {B : Nat → Tup → Prop} {s : Nat} (hp : ∀ r ∈ p.rules, RuD p D r) (hl : ∀ r ∈ p.rules, r.head.pred < p.preds.length) : ∀ (rs : List PR) (X : List (List Tup) × Bool), (∀ r ∈ rs, r ∈ p.rules) → X.1.length = p.preds.length → RD' p D X.1 → Btw gS p B s (memI X.1) → Btw gS p B s (memI (rnd p s rs X).1) ∧ (rnd p s rs X).1.length = p.preds.length ∧ RD' p D (rnd p s rs X).1 ∧ ((rnd p s rs X).2.1 = false → (rnd p s rs X).2.2 = false → (rnd p s rs X).1 = X.1 ∧ X.2 = false ∧ ∀ r ∈ rs, (pI p r.head.pred).stratum = (s : Int) → ∀ t ∈ fnd X.1 r, memI X.1 r.head.pred t)
  | [], X, _, hX, hD, hB => ⟨hB, hX, hD, fun h _ => ⟨rfl, h, fun r hr => by cases hr⟩⟩
  | r :: rs, X, hr, hX, hD, hB => by
    have hr' : ∀ y ∈ rs, y ∈ p.rules := fun y hy => hr y (List.mem_cons_of_mem _ hy)
    have hrm := hr r List.mem_cons_self
    unfold rnd
    by_cases hs : (pI p r.head.pred).stratum ≠ (s : Int)
    · rw [if_pos hs]
      obtain ⟨h1, h2, h3, h4⟩ := rnd_btw hp hl rs X hr' hX hD hB
      refine ⟨h1, h2, h3, fun h5 h6 => ?_⟩
      obtain ⟨k1, k2, k3⟩ := h4 h5 h6
      refine ⟨k1, k2, fun y hy hys => ?_⟩
      rcases List.mem_cons.1 hy with rfl | hy
      · exact absurd hys hs
      · exact k3 y hy hys
    · rw [if_neg hs]
      have hs' : (pI p r.head.pred).stratum = (s : Int) := Classical.byContradiction hs
      have hlen : r.head.pred < X.1.length := by rw [hX]; exact hl r hrm
      have hmem := foldT_mem (h := r.head.pred) (fnd X.1 r) X hlen
      have hYl : ((fnd X.1 r).foldl (stepT r.head.pred) X).1.length = p.preds.length := by rw [foldT_len]; exact hX
      have hYD : RD' p D ((fnd X.1 r).foldl (stepT r.head.pred) X).1 := step_D _ _ (fnd_D hD (hp r hrm)) hD
      have hYB : Btw gS p B s (memI ((fnd X.1 r).foldl (stepT r.head.pred) X).1) := by
        refine ⟨fun q x hx => ?_, fun q x hx => (hmem q x).2 (.inl (hB.cmp q x hx))⟩
        rcases (hmem q x).1 hx with h | ⟨rfl, h⟩
        · exact hB.snd q x h
        · obtain ⟨σ, rfl, hb⟩ := (fnd_iff hD (hp r hrm)).1 h
          exact hB.der hrm hs' hb
      dsimp only
      by_cases ho : overB ((fnd X.1 r).foldl (stepT r.head.pred) X).1 = true
      · rw [if_pos ho]
        exact ⟨hYB, hYl, hYD, fun _ h => by cases h⟩
      · rw [if_neg ho]
        obtain ⟨h1, h2, h3, h4⟩ := rnd_btw hp hl rs _ hr' hYl hYD hYB
        refine ⟨h1, h2, h3, fun h5 h6 => ?_⟩
        obtain ⟨k1, k2, k3⟩ := h4 h5 h6
        obtain ⟨g1, g2⟩ := foldT_no _ _ k2
        rw [g1] at k1 k2 k3
        refine ⟨by rw [g1]; exact k1, k2, fun y hy hys => ?_⟩
        rcases List.mem_cons.1 hy with rfl | hy
        · exact g2
        · exact k3 y hy hys
theorem rnd_ov {p : PP} {s : Nat} : ∀ (rs : List PR) (X : List (List Tup) × Bool), (rnd p s rs X).2.2 = true → overB (rnd p s rs X).1 = true
  | [], X, h => by cases h
  | r :: rs, X, h => by
    unfold rnd at h ⊢
    by_cases hs : (pI p r.head.pred).stratum ≠ (s : Int)
    · rw [if_pos hs] at h ⊢; exact rnd_ov rs X h
    · rw [if_neg hs] at h ⊢
      dsimp only at h ⊢
      by_cases ho : overB ((fnd X.1 r).foldl (stepT r.head.pred) X).1 = true
      · rw [if_pos ho]; exact ho
      · rw [if_neg ho] at h ⊢; exact rnd_ov rs _ h
/-- Every head lies below the number of strata. -/
def TopS (p : PP) : Prop := ∀ r ∈ p.rules, (pI p r.head.pred).stratum < p.strata
theorem lm_top {α β : Type} {g : PA → (Nat → β) → α} {p : PP} {B : Nat → α → Prop} (hT : TopS p) {s q : Nat} {x : α} (hs : ¬ (s : Int) < p.strata) (h : LM g p B (s + 1) q x) : LM g p B s q x := by
  cases h with
  | old _ _ h => exact h
  | rule r σ hr h9 _ _ => exact absurd (by rw [← h9]; exact hT r hr) hs
/-- The service's engine computes the least model. -/
theorem PerfTo.lm {p : PP} {D : Int → Prop} {B : Nat → Tup → Prop} (hp : ∀ r ∈ p.rules, RuD p D r) (hl : ∀ r ∈ p.rules, r.head.pred < p.preds.length) (hN : NegS p) (hT : TopS p) {s : Nat} {R R1 : List (List Tup)} (h : PerfTo p s R R1) : R.length = p.preds.length → RD' p D R → Btw gS p B s (memI R) → s ≤ p.strata.toNat → (∀ q x, memI R1 q x → LM gS p B p.strata.toNat q x) ∧ (overB R1 = false → ∀ q x, LM gS p B p.strata.toNat q x → memI R1 q x) := by
  induction h with
  | fin s R hs =>
    intro _ _ hB hle
    have e : s = p.strata.toNat := by omega
    rw [← e]
    exact ⟨fun q x hx => lm_top hT hs (hB.snd q x hx), fun _ => hB.cmp⟩
  | stop s R R1 g hs hr =>
    intro hl1 hD hB hle
    have h1 := rnd_btw hp hl p.rules (R, false) (fun _ h => h) hl1 hD hB
    have h2 := rnd_ov (p := p) (s := s) p.rules (R, false)
    rw [hr] at h1 h2
    refine ⟨fun q x hx => (h1.1.snd q x hx).le (by omega), fun ho => ?_⟩
    have h3 : overB R1 = true := h2 rfl
    rw [h3] at ho; cases ho
  | again s R R1 R2 hs hr _ ih =>
    intro hl1 hD hB hle
    have h1 := rnd_btw hp hl p.rules (R, false) (fun _ h => h) hl1 hD hB
    rw [hr] at h1
    exact ih h1.2.1 h1.2.2.1 h1.1 hle
  | next s R R1 R2 hs hr _ ih =>
    intro hl1 hD hB hle
    have h1 := rnd_btw hp hl p.rules (R, false) (fun _ h => h) hl1 hD hB
    rw [hr] at h1
    obtain ⟨k1, -, k3⟩ := h1.2.2.2 rfl rfl
    have k1' : R1 = R := k1
    refine ih h1.2.1 h1.2.2.1 (h1.1.nx (h1.1.all hN (fun r hr9 hs9 σ hb => ?_))) (by omega)
    rw [k1'] at hb ⊢
    exact k3 r hr9 hs9 _ ((fnd_iff hD (hp r hr9)).2 ⟨σ, rfl, hb⟩)
end Go.Proofs.Qxb6500787aGreat
