import Derived.Test.Qxb6500787aGreatMf

import Derived.StillTailTactics
import Derived.Deep.QuietTactic
import Derived.BigQuiet
import Derived.Deep.RegionHeld
import Derived.Deep.CutRange
import Derived.Laws.ResultCell
import Derived.Laws.Rows
import Derived.DeepKeys
import Derived.DataBytes
import Derived.Laws.StructEq
import Derived.Laws.AppendOwn
import Derived.Laws.MakeOwn
import Derived.Lib.AppendStr
set_option linter.unusedSimpArgs false
set_option linter.unusedVariables false
namespace Go.Proofs.Qxb6500787aGreat
open Go.RowKit Go.Blk
attribute [local go_sem ↓] execOp_load execOp_store execOp_alloc
attribute [local go_sem] Tryz.ld26 Tryz.st26 Tryz.ld27 Tryz.st27 Tryz.ld28 Tryz.st28 Tryz.ld3 Tryz.st3 Tryz.ld29 Tryz.st29 Tryz.ld44 Tryz.st44 Tryz.ld4 Tryz.st4 Tryz.ld50 Tryz.st50 Tryz.ld32 Tryz.st32 Tryz.ld49 Tryz.st49 Tryz.ld68 Tryz.st68 Tryz.ld9 Tryz.st9 Tryz.ld40 Tryz.st40 Tryz.ld138 Tryz.st138 Tryz.ld139 Tryz.st139 Tryz.ld146 Tryz.st146 Tryz.ld183 Tryz.st183 Tryz.ld184 Tryz.st184 Tryz.ld192 Tryz.st192 Tryz.ld195 Tryz.st195 Tryz.ld217 Tryz.st217 Tryz.ld159 Tryz.st159 Tryz.ld142 Tryz.st142 Tryz.ld2 Tryz.st2 Tryz.ld5 Tryz.st5 Tryz.ld12 Tryz.st12 Tryz.ld21 Tryz.st21 Tryz.ld22 Tryz.st22 Tryz.ld24 Tryz.st24 Tryz.ld58 Tryz.st58 Tryz.ld97 Tryz.st97 Tryz.ld101 Tryz.st101 Tryz.ld116 Tryz.st116 Tryz.ld121 Tryz.st121 Tryz.ld135 Tryz.st135 Tryz.ld136 Tryz.st136 Tryz.ld143 Tryz.st143 Tryz.ld148 Tryz.st148 Tryz.ld154 Tryz.st154 Tryz.ld173 Tryz.st173 Tryz.ld187 Tryz.st187 Tryz.ld222 Tryz.st222 Tryz.ld241 Tryz.st241 Tryz.ld248 Tryz.st248 Tryz.ld268 Tryz.st268 Tryz.ld272 Tryz.st272 Tryz.ld153 Tryz.st153 Tryz.ld255 Tryz.st255 Tryz.ld256 Tryz.st256 Tryz.ld129 Tryz.st129 Tryz.ld152 Tryz.st152 Tryz.ld31 Tryz.st31 Tryz.ld46 Tryz.st46 Tryz.ld52 Tryz.st52 Tryz.ld54 Tryz.st54 Tryz.ld60 Tryz.st60 Tryz.ld70 Tryz.st70 Tryz.ld74 Tryz.st74 Tryz.ld93 Tryz.st93 Tryz.ld141 Tryz.st141 Tryz.ld151 Tryz.st151 Tryz.ld170 Tryz.st170 Tryz.ld186 Tryz.st186 Tryz.ld189 Tryz.st189 Tryz.ld194 Tryz.st194 Tryz.ld197 Tryz.st197 Tryz.ld219 Tryz.st219 Tryz.ld224 Tryz.st224 Tryz.ld230 Tryz.st230 Tryz.ld235 Tryz.st235 Tryz.ld243 Tryz.st243 Tryz.ld247 Tryz.st247 Tryz.ld252 Tryz.st252 Tryz.ld258 Tryz.st258 Tryz.al153 Tryz.al255 Tryz.al256 Tryz.al129 Tryz.al152 Tryz.al31 Tryz.al46 Tryz.al52 Tryz.al54 Tryz.al60 Tryz.al70 Tryz.al74 Tryz.al93 Tryz.al141 Tryz.al151 Tryz.al170 Tryz.al186 Tryz.al189 Tryz.al194 Tryz.al197 Tryz.al219 Tryz.al224 Tryz.al230 Tryz.al235 Tryz.al243 Tryz.al247 Tryz.al252 Tryz.al258
attribute [local go_sem] Request.length_enc Request.ok_enc Request.all_get Request.all_set Request.kind_get Request.kind_set Request.blob_get Request.blob_set Request.items_get Request.items_set Request.pred_get Request.pred_set Request.slots_get Request.slots_set Trace.length_enc Trace.ok_enc Trace.all_get Trace.all_set Trace.op_get Trace.op_set Trace.calls_get Trace.calls_set Item.length_enc Item.ok_enc Item.all_get Item.all_set Item.del_get Item.del_set Item.pred_get Item.pred_set Item.args_get Item.args_set Reply.length_enc Reply.ok_enc Reply.all_get Reply.all_set Reply.code_get Reply.code_set Reply.kind_get Reply.kind_set Reply.index_get Reply.index_set Reply.yes_get Reply.yes_set Reply.preds_get Reply.preds_set Reply.rules_get Reply.rules_set Reply.arity_get Reply.arity_set Reply.rows_get Reply.rows_set Reply.fact_get Reply.fact_set Reply.fact_del_get Reply.fact_del_set Reply.fact_pred_get Reply.fact_pred_set Reply.fact_args_get Reply.fact_args_set GEntry.length_enc GEntry.ok_enc GEntry.all_get GEntry.all_set GEntry.seq_get GEntry.seq_set GEntry.kind_get GEntry.kind_set GEntry.code_get GEntry.code_set GOp.length_enc GOp.ok_enc GOp.all_get GOp.all_set GOp.kind_get GOp.kind_set GOp.raw_get GOp.raw_set Reader.length_enc Reader.ok_enc Reader.all_get Reader.all_set Reader.buf_get Reader.buf_set Reader.at__get Reader.at__set Slot.length_enc Slot.ok_enc Slot.all_get Slot.all_set Slot.bound_get Slot.bound_set Slot.name_get Slot.name_set Session.length_enc Session.ok_enc Session.all_get Session.all_set Session.svc_get Session.svc_set Session.buf_get Session.buf_set Session.closed_get Session.closed_set GProgram.length_enc GProgram.ok_enc GProgram.all_get GProgram.all_set GProgram.pool_get GProgram.pool_set GProgram.preds_get GProgram.preds_set GProgram.rules_get GProgram.rules_set GProgram.strata_get GProgram.strata_set PredInfo.length_enc PredInfo.ok_enc PredInfo.all_get PredInfo.all_set PredInfo.arity_get PredInfo.arity_set PredInfo.base_get PredInfo.base_set PredInfo.stratum_get PredInfo.stratum_set Change.length_enc Change.ok_enc Change.all_get Change.all_set Change.del_get Change.del_set Change.pred_get Change.pred_set Change.t_get Change.t_set Store.length_enc Store.ok_enc Store.all_get Store.all_set Store.names_get Store.names_set Store.arity_get Store.arity_set Store.rows_get Store.rows_set Src.length_enc Src.ok_enc Src.all_get Src.all_set Src.b_get Src.b_set Src.at__get Src.at__set Atom.length_enc Atom.ok_enc Atom.all_get Atom.all_set Atom.pred_get Atom.pred_set Atom.args_get Atom.args_set GRule.length_enc GRule.ok_enc GRule.all_get GRule.all_set GRule.head_get GRule.head_set GRule.body_get GRule.body_set GRule.head_pred_get GRule.head_pred_set GRule.head_args_get GRule.head_args_set Cert.length_enc Cert.ok_enc Cert.all_get Cert.all_set Cert.names_get Cert.names_set Cert.nodes_get Cert.nodes_set Fact.length_enc Fact.ok_enc Fact.all_get Fact.all_set Fact.pred_get Fact.pred_set Fact.t_get Fact.t_set Literal.length_enc Literal.ok_enc Literal.all_get Literal.all_set Literal.neg_get Literal.neg_set Literal.atom_get Literal.atom_set Literal.atom_pred_get Literal.atom_pred_set Literal.atom_args_get Literal.atom_args_set Engine.length_enc Engine.ok_enc Engine.all_get Engine.all_set Engine.prog_get Engine.prog_set Engine.st_get Engine.st_set SrcCertm.length_enc SrcCertm.ok_enc SrcCertm.all_get SrcCertm.all_set SrcCertm.b_get SrcCertm.b_set SrcCertm.at__get SrcCertm.at__set GNode.length_enc GNode.ok_enc GNode.all_get GNode.all_set GNode.rule_get GNode.rule_set GNode.pred_get GNode.pred_set GNode.vals_get GNode.vals_set GNode.refs_get GNode.refs_set Term.length_enc Term.ok_enc Term.all_get Term.all_set Term.var_get Term.var_set Term.n_get Term.n_set Env.length_enc Env.ok_enc Env.all_get Env.all_set Env.val_get Env.val_set Env.set_get Env.set_set
attribute [local go_sem] size_put size_ext blk_put free_put blk_alloc free_alloc blk_drew free_drew blk_ext free_ext lookOr_some putOr_some segAt_some cellAt_some storeIn_some put_put put_alloc_new length_arr ok_arr_u8 ok_arr_u32 ok_arr_u64 ok_arr_i64 ok_arr_sl cellsV_agg cellsV_int cellsV_bool cellsV_string cellsV_pointer cellsV_slice cellsV_sl ok_int ok_bool ok_string ok_pointer ok_slice ok_sl toList_arr seg_arr set_arr nth_splice nth_splice0 seg_splice seg_splice0 splice_splice splice_splice0 length_splice_if
attribute [local go_sem ↓] execOp_box
attribute [local go_sem] box_run nth_arr_u8 put_arr_u8 blk_drewN free_drewN put_drewN blk_raw free_raw
/-- The values after i variables are set. -/
def setI (vars : List Int) (dom : List (List UInt8)) (dg : List Nat) (vals : List (List UInt8)) (i : Nat) : List (List UInt8) := (List.range i).foldl (fun vs j => vs.set (vars.getD j 0).toNat (dom.getD (dg.getD j 0) [])) vals
theorem setI_succ (vars : List Int) (dom : List (List UInt8)) (dg : List Nat) (vals : List (List UInt8)) (i : Nat) : setI vars dom dg vals (i + 1) = (setI vars dom dg vals i).set (vars.getD i 0).toNat (dom.getD (dg.getD i 0) []) := by
  unfold setI
  rw [List.range_succ, List.foldl_append]
  rfl
theorem setI_len (vars : List Int) (dom : List (List UInt8)) (dg : List Nat) (vals : List (List UInt8)) : ∀ i, (setI vars dom dg vals i).length = vals.length
  | 0 => rfl
  | i + 1 => by rw [setI_succ, List.length_set, setI_len vars dom dg vals i]
/-- What one substitution adds. -/
def addF (pool : List (List UInt8)) (F : List (List NRow)) (r : PR) (n : Nat) (vals : List (List UInt8)) (S : List NStep) : List NStep :=
  if holdB pool vals F r.body = true then
    if instF pool vals r.head ∈ F.getD r.head.pred [] then S
    else if knB S r.head.pred (instF pool vals r.head) = true then S
    else S ++ [⟨r.head.pred, instF pool vals r.head, n, vals⟩]
  else S
/-- The next number. -/
def incF (k : Nat) : List Nat → Option (List Nat)
  | [] => none
  | d :: ds => if d + 1 = k then (incF k ds).map (0 :: ·) else some ((d + 1) :: ds)
inductive ConTo (pool dom : List (List UInt8)) (F : List (List NRow)) (r : PR) (n : Nat) : List Nat → List (List UInt8) → List NStep → List NStep → Prop where
  | stop (dg : List Nat) (vals : List (List UInt8)) (S : List NStep) : incF dom.length dg = none → ConTo pool dom F r n dg vals S (addF pool F r n (setI (varsF r) dom dg vals (varsF r).length) S)
  | go (dg dg' : List Nat) (vals : List (List UInt8)) (S out : List NStep) : incF dom.length dg = some dg' → ConTo pool dom F r n dg' (setI (varsF r) dom dg vals (varsF r).length) (addF pool F r n (setI (varsF r) dom dg vals (varsF r).length) S) out → ConTo pool dom F r n dg vals S out
/-- The consequences of a rule. -/
def conR (pool dom : List (List UInt8)) (F : List (List NRow)) (r : PR) (n : Nat) (S out : List NStep) : Prop :=
  (varsF r ≠ [] ∧ dom = [] ∧ out = S) ∨ (¬ (varsF r ≠ [] ∧ dom = []) ∧ ConTo pool dom F r n (List.replicate (varsF r).length 0) (List.replicate 32 []) S out)
/-- How many numbers are left. -/
def remM (k : Nat) : List Nat → Nat
  | [] => 0
  | d :: ds => (k - 1 - d) + k * remM k ds
def DgOk (k : Nat) (dg : List Nat) : Prop := ∀ d ∈ dg, d < k
theorem incF_rem {k : Nat} : ∀ {dg dg' : List Nat}, DgOk k dg → incF k dg = some dg' → remM k dg' < remM k dg ∧ DgOk k dg' ∧ dg'.length = dg.length
  | [], dg', _, h => by cases h
  | d :: ds, dg', hd, h => by
    have hds : DgOk k ds := fun x hx => hd x (List.mem_cons_of_mem _ hx)
    have hdk := hd d List.mem_cons_self
    unfold incF at h
    by_cases e : d + 1 = k
    · rw [if_pos e] at h
      cases hi : incF k ds with
      | none => rw [hi] at h; cases h
      | some ds' =>
        rw [hi] at h
        have e1 : dg' = 0 :: ds' := (Option.some.inj h).symm
        obtain ⟨h1, h2, h3⟩ := incF_rem hds hi
        refine ⟨?_, fun x hx => ?_, ?_⟩
        · rw [e1]
          show (k - 1 - 0) + k * remM k ds' < (k - 1 - d) + k * remM k ds
          have h4 : k * (remM k ds' + 1) ≤ k * remM k ds := Nat.mul_le_mul_left _ h1
          rw [Nat.mul_add] at h4
          omega
        · rw [e1] at hx
          rcases List.mem_cons.1 hx with rfl | hx
          · omega
          · exact h2 x hx
        · rw [e1]; show ds'.length + 1 = ds.length + 1; omega
    · rw [if_neg e] at h
      have e1 : dg' = (d + 1) :: ds := (Option.some.inj h).symm
      refine ⟨?_, fun x hx => ?_, by rw [e1]; rfl⟩
      · rw [e1]
        show (k - 1 - (d + 1)) + k * remM k ds < (k - 1 - d) + k * remM k ds
        omega
      · rw [e1] at hx
        rcases List.mem_cons.1 hx with rfl | hx
        · omega
        · exact hds x hx
theorem incF_end {k : Nat} : ∀ {dg : List Nat}, (∀ d ∈ dg, d + 1 = k) → incF k dg = none
  | [], _ => rfl
  | d :: ds, h => by
    unfold incF
    rw [if_pos (h d List.mem_cons_self), incF_end (fun x hx => h x (List.mem_cons_of_mem _ hx))]; rfl
theorem incF_at {k : Nat} : ∀ {dg : List Nat} {i d : Nat}, (∀ j x, j < i → dg[j]? = some x → x + 1 = k) → dg[i]? = some d → d + 1 ≠ k → incF k dg = some (List.replicate i 0 ++ (d + 1) :: dg.drop (i + 1))
  | [], i, d, _, h, _ => by cases h
  | x :: ds, 0, d, _, h, hd => by
    have e : x = d := Option.some.inj h
    subst e
    unfold incF
    rw [if_neg hd]; rfl
  | x :: ds, i + 1, d, h0, h, hd => by
    unfold incF
    rw [if_pos (h0 0 x (by omega) rfl), incF_at (i := i) (fun j y hj hy => h0 (j + 1) y (by omega) hy) h hd]
    rfl
/-- What is found: facts, each once, of constants of the domain. -/
structure StOk (dom : List (List UInt8)) (S : List NStep) : Prop where
  nd : (S.map fun s => (s.pred, s.row)).Nodup
  ok : ∀ s ∈ S, s.pred < 64 ∧ s.row.length ≤ 4 ∧ (∀ x ∈ s.row, x ∈ dom) ∧ s.vals.length = 32
/-- A row as a number. -/
def rcode (dom : List (List UInt8)) : NRow → Nat
  | [] => 0
  | x :: r => (dom.idxOf x + 1) + 257 * rcode dom r
theorem rcode_inj {dom : List (List UInt8)} (hd : dom.length ≤ 256) : ∀ {r r' : NRow}, (∀ x ∈ r, x ∈ dom) → (∀ x ∈ r', x ∈ dom) → rcode dom r = rcode dom r' → r = r'
  | [], [], _, _, _ => rfl
  | [], x :: r', _, _, h => by
    have : 0 = (dom.idxOf x + 1) + 257 * rcode dom r' := h
    omega
  | x :: r, [], _, _, h => by
    have : (dom.idxOf x + 1) + 257 * rcode dom r = 0 := h
    omega
  | x :: r, y :: r', hr, hr', h => by
    have h1 : (dom.idxOf x + 1) + 257 * rcode dom r = (dom.idxOf y + 1) + 257 * rcode dom r' := h
    have hx := List.idxOf_lt_length_of_mem (hr x List.mem_cons_self)
    have hy := List.idxOf_lt_length_of_mem (hr' y List.mem_cons_self)
    have e1 : dom.idxOf x = dom.idxOf y := by omega
    have e2 : rcode dom r = rcode dom r' := by omega
    have e3 : x = y := by
      have h2 := List.getElem_idxOf hx
      have h3 := List.getElem_idxOf hy
      rw [← h2, ← h3]
      simp only [e1]
    rw [e3, rcode_inj hd (fun z hz => hr z (List.mem_cons_of_mem _ hz)) (fun z hz => hr' z (List.mem_cons_of_mem _ hz)) e2]
theorem rcode_lt {dom : List (List UInt8)} (hd : dom.length ≤ 256) : ∀ {r : NRow} (n : Nat), r.length ≤ n → (∀ x ∈ r, x ∈ dom) → rcode dom r < 257 ^ n
  | [], n, _, _ => Nat.pow_pos (by omega)
  | x :: r, 0, h, _ => by cases h
  | x :: r, n + 1, h, hr => by
    have hx := List.idxOf_lt_length_of_mem (hr x List.mem_cons_self)
    have ih := rcode_lt hd (r := r) n (by simp at h; omega) (fun z hz => hr z (List.mem_cons_of_mem _ hz))
    show (dom.idxOf x + 1) + 257 * rcode dom r < 257 ^ (n + 1)
    rw [Nat.pow_succ]
    have : 257 * (rcode dom r + 1) ≤ 257 * 257 ^ n := Nat.mul_le_mul_left _ ih
    omega
theorem nodup_lt : ∀ (B : Nat) (l : List Nat), l.Nodup → (∀ x ∈ l, x < B) → l.length ≤ B
  | 0, l, _, h => by
    cases l with
    | nil => exact Nat.le_refl _
    | cons x l => exact absurd (h x List.mem_cons_self) (by omega)
  | B + 1, l, hn, h => by
    have h1 : (l.erase B).length ≤ B := nodup_lt B _ (hn.erase B) (fun x hx => by
      have h2 := h x (List.mem_of_mem_erase hx)
      have h3 : x ≠ B := fun e => by
        rw [e] at hx
        exact (List.Nodup.not_mem_erase hn) hx
      omega)
    have h2 := List.length_erase (a := B) (l := l)
    split at h2 <;> omega
theorem StOk.bd {dom : List (List UInt8)} {S : List NStep} (h : StOk dom S) (hd : dom.length ≤ 256) : S.length ≤ 280000000000 := by
  have h4 : ∀ {r : NRow}, r.length ≤ 4 → (∀ x ∈ r, x ∈ dom) → rcode dom r < 4362470401 := fun h1 h2 => by
    have h9 := rcode_lt hd 4 h1 h2
    have e : (257 : Nat) ^ 4 = 4362470401 := by decide
    rw [e] at h9
    exact h9
  have key : (S.map fun s => s.pred * 4362470401 + rcode dom s.row).Nodup := by
    have h1 := h.nd
    have e : (S.map fun s => s.pred * 4362470401 + rcode dom s.row) = (S.map fun s => (s.pred, s.row)).map fun x => x.1 * 4362470401 + rcode dom x.2 := by
      rw [List.map_map]; rfl
    rw [e]
    have hm : ∀ x ∈ S.map fun s => (s.pred, s.row), x.2.length ≤ 4 ∧ ∀ z ∈ x.2, z ∈ dom := fun x hx => by
      obtain ⟨s, hs, rfl⟩ := List.mem_map.1 hx
      exact ⟨(h.ok s hs).2.1, (h.ok s hs).2.2.1⟩
    generalize (S.map fun s => (s.pred, s.row)) = L at h1 hm
    induction L with
    | nil => exact List.nodup_nil
    | cons x L ih =>
      rw [List.map_cons, List.nodup_cons]
      rw [List.nodup_cons] at h1
      refine ⟨fun hc => ?_, ih h1.2 (fun y hy => hm y (List.mem_cons_of_mem _ hy))⟩
      obtain ⟨y, hy, ey⟩ := List.mem_map.1 hc
      have hx2 := hm x List.mem_cons_self
      have hy2 := hm y (List.mem_cons_of_mem _ hy)
      have l1 := h4 hx2.1 hx2.2
      have l2 := h4 hy2.1 hy2.2
      have e1 : y.1 = x.1 := by omega
      have e2 : rcode dom y.2 = rcode dom x.2 := by omega
      have e3 := rcode_inj hd hy2.2 hx2.2 e2
      exact h1.1 (by rw [show x = y from Prod.ext e1.symm e3.symm]; exact hy)
  have h9 := nodup_lt (64 * 4362470401) _ key (fun x hx => by
    obtain ⟨s, hs, rfl⟩ := List.mem_map.1 hx
    have h1 := h.ok s hs
    have l1 := h4 h1.2.1 h1.2.2.1
    have l2 : s.pred * 4362470401 ≤ 63 * 4362470401 := Nat.mul_le_mul_right _ (by omega)
    show s.pred * 4362470401 + rcode dom s.row < 64 * 4362470401
    omega)
  rw [List.length_map] at h9
  omega
theorem setI_in {dom : List (List UInt8)} {vars : List Int} {dg : List Nat} {vals : List (List UInt8)} (hd : ∀ j, j < vars.length → dg.getD j 0 < dom.length) (hv : ∀ v ∈ vars, 0 ≤ v ∧ v < (vals.length : Int)) : ∀ i, i ≤ vars.length → ∀ j, j < i → (setI vars dom dg vals i).getD (vars.getD j 0).toNat [] ∈ dom
  | 0, _, j, hj => by omega
  | i + 1, hi, j, hj => by
    rw [setI_succ]
    have hvi := hv (vars.getD i 0) (by rw [List.getD_eq_getElem?_getD, List.getElem?_eq_getElem (by omega)]; exact List.getElem_mem _)
    have hm : dom.getD (dg.getD i 0) [] ∈ dom := by
      rw [List.getD_eq_getElem?_getD, List.getElem?_eq_getElem (hd i (by omega))]
      exact List.getElem_mem _
    rw [List.getD_eq_getElem?_getD, List.getElem?_set]
    split
    · rename_i e
      rw [if_pos (by rw [setI_len]; omega)]
      exact hm
    · rename_i e
      have hne : j ≠ i := fun e9 => e (by rw [e9])
      rw [← List.getD_eq_getElem?_getD]
      exact setI_in hd hv i (by omega) j (by omega)
theorem vaA_mem {vs : List Int} {t : Term} {v : Int} : v ∈ vaA vs t ↔ v ∈ vs ∨ (t.var = true ∧ v = t.n) := by
  unfold vaA
  split
  · rename_i h
    rw [List.mem_append, List.mem_singleton]
    exact ⟨fun h9 => h9.elim .inl (fun e => .inr ⟨h.1, e⟩), fun h9 => h9.elim .inl (fun e => .inr e.2)⟩
  · rename_i h
    refine ⟨.inl, fun h9 => h9.elim id (fun e => ?_)⟩
    rw [e.2]
    exact Classical.byContradiction fun h8 => h ⟨e.1, h8⟩
theorem foldA_mem : ∀ (ts : List Term) {vs : List Int} {v : Int}, v ∈ ts.foldl vaA vs ↔ v ∈ vs ∨ ∃ t ∈ ts, t.var = true ∧ v = t.n
  | [], vs, v => by simp
  | t :: ts, vs, v => by
    rw [List.foldl_cons, foldA_mem ts, vaA_mem]
    constructor
    · rintro ((h | h) | ⟨u, hu, h⟩)
      · exact .inl h
      · exact .inr ⟨t, List.mem_cons_self, h⟩
      · exact .inr ⟨u, List.mem_cons_of_mem _ hu, h⟩
    · rintro (h | ⟨u, hu, h⟩)
      · exact .inl (.inl h)
      · rcases List.mem_cons.1 hu with rfl | hu
        · exact .inl (.inr h)
        · exact .inr ⟨u, hu, h⟩
theorem foldL_mem : ∀ (As : List PA) {vs : List Int} {v : Int}, v ∈ As.foldl vaL vs ↔ v ∈ vs ∨ ∃ a ∈ As, ∃ t ∈ a.args, t.var = true ∧ v = t.n
  | [], vs, v => by simp
  | a :: As, vs, v => by
    rw [List.foldl_cons, foldL_mem As]
    show v ∈ a.args.foldl vaA vs ∨ _ ↔ _
    rw [foldA_mem]
    constructor
    · rintro ((h | h) | ⟨u, hu, h⟩)
      · exact .inl h
      · exact .inr ⟨a, List.mem_cons_self, h⟩
      · exact .inr ⟨u, List.mem_cons_of_mem _ hu, h⟩
    · rintro (h | ⟨u, hu, h⟩)
      · exact .inl (.inl h)
      · rcases List.mem_cons.1 hu with rfl | hu
        · exact .inl (.inr h)
        · exact .inr ⟨u, hu, h⟩
/-- The variables of a rule are those of its atoms. -/
theorem varsF_mem {r : PR} {v : Int} : v ∈ varsF r ↔ ∃ a ∈ atomsOf r, ∃ t ∈ a.args, t.var = true ∧ v = t.n := by
  unfold varsF
  rw [foldL_mem]
  simp
/-- A rule that fits the tables. -/
structure RuFit (pool : List (List UInt8)) (r : PR) (N : Nat) : Prop where
  bl : r.body.length ≤ 1000
  hp : r.head.pred < N
  bp : ∀ z ∈ r.body, z.atom.pred < N
  ar : ∀ a ∈ atomsOf r, a.args.length ≤ 4
  tm : ∀ a ∈ atomsOf r, ∀ c, c < a.args.length → 0 ≤ (tA a c).n ∧ ((tA a c).var = true → (tA a c).n < 32) ∧ ((tA a c).var = false → (tA a c).n < (pool.length : Int))
theorem RuFit.fit {pool : List (List UInt8)} {r : PR} {N : Nat} (h : RuFit pool r N) {vals : List (List UInt8)} (hv : vals.length = 32) {a : PA} (ha : a ∈ atomsOf r) : InFit pool vals a := fun c hc => by
  obtain ⟨h1, h2, h3⟩ := h.tm a ha c hc
  exact ⟨h1, fun e => by rw [hv]; exact h2 e, h3⟩
theorem RuFit.vars {pool : List (List UInt8)} {r : PR} {N : Nat} (h : RuFit pool r N) : ∀ v ∈ varsF r, 0 ≤ v ∧ v < 32 := fun v hv => by
  obtain ⟨a, ha, t, ht, h1, rfl⟩ := varsF_mem.1 hv
  obtain ⟨c, hc⟩ := List.mem_iff_getElem?.1 ht
  have hcl := (List.getElem?_eq_some_iff.1 hc).1
  have e : t = tA a c := by rw [tA_at hcl] at hc; exact (Option.some.inj hc).symm
  have h9 := h.tm a ha c hcl
  rw [← e] at h9
  exact ⟨h9.1, h9.2.1 h1⟩
theorem StOk.nil (dom : List (List UInt8)) : StOk dom [] := ⟨List.nodup_nil, fun s h => by cases h⟩
theorem StOk.add {pool dom : List (List UInt8)} {F : List (List NRow)} {r : PR} {n : Nat} {vals : List (List UInt8)} {S : List NStep} (h : StOk dom S) (hr : RuFit pool r 64) (hpd : ∀ x ∈ pool, x ∈ dom) (hv : ∀ v ∈ varsF r, vals.getD v.toNat [] ∈ dom) (hl : vals.length = 32) : StOk dom (addF pool F r n vals S) := by
  unfold addF
  split
  rotate_left 1
  · exact h
  split
  · exact h
  split
  · exact h
  rename_i h1 h2 h3
  have hh : r.head ∈ atomsOf r := List.mem_cons_self
  refine ⟨?_, fun s hs => ?_⟩
  · rw [List.map_append, List.nodup_append]
    refine ⟨h.nd, by simp, fun x hx y hy e => ?_⟩
    rw [List.map_cons, List.map_nil, List.mem_singleton] at hy
    obtain ⟨s, hs, rfl⟩ := List.mem_map.1 hx
    rw [hy] at e
    obtain ⟨j, hj⟩ := List.mem_iff_getElem?.1 hs
    exact h3 (knB_yes hj (Prod.mk.inj e).1 (Prod.mk.inj e).2)
  · rcases List.mem_append.1 hs with hs | hs
    · exact h.ok s hs
    · rw [List.mem_singleton.1 hs]
      refine ⟨hr.hp, ?_, fun x hx => ?_, hl⟩
      · show (instF pool vals r.head).length ≤ 4
        unfold instF
        rw [List.length_map]; exact hr.ar _ hh
      · obtain ⟨t, ht, rfl⟩ := List.mem_map.1 (show x ∈ r.head.args.map (vlT pool vals) from hx)
        obtain ⟨c, hc⟩ := List.mem_iff_getElem?.1 ht
        have hcl := (List.getElem?_eq_some_iff.1 hc).1
        have e : t = tA r.head c := by rw [tA_at hcl] at hc; exact (Option.some.inj hc).symm
        have h9 := hr.tm _ hh c hcl
        rw [← e] at h9
        unfold vlT
        by_cases hvr : t.var = true
        · rw [if_pos hvr]
          exact hv t.n (varsF_mem.2 ⟨_, hh, t, ht, hvr, rfl⟩)
        · rw [if_neg hvr]
          have h8 := h9.2.2 (by simpa using hvr)
          refine hpd _ ?_
          rw [List.getD_eq_getElem?_getD, List.getElem?_eq_getElem (by omega)]
          exact List.getElem_mem _
end Go.Proofs.Qxb6500787aGreat
