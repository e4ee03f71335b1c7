import Derived.Test.Qxb6500787aGreatCc
import Derived.Test.Qxb6500787aGreatMm

import Derived.StillTailTactics
import Derived.Deep.QuietTactic
import Derived.BigQuiet
import Derived.Deep.RegionHeld
import Derived.Deep.CutRange
import Derived.Laws.ResultCell
import Derived.Laws.Rows
import Derived.DeepKeys
import Derived.DataBytes
import Derived.Laws.StructEq
import Derived.Laws.AppendOwn
import Derived.Laws.MakeOwn
import Derived.Lib.AppendStr
set_option linter.unusedSimpArgs false
set_option linter.unusedVariables false
namespace Go.Proofs.Qxb6500787aGreat
open Go.RowKit Go.Blk
attribute [local go_sem ↓] execOp_load execOp_store execOp_alloc
attribute [local go_sem] Tryz.ld26 Tryz.st26 Tryz.ld27 Tryz.st27 Tryz.ld28 Tryz.st28 Tryz.ld3 Tryz.st3 Tryz.ld29 Tryz.st29 Tryz.ld44 Tryz.st44 Tryz.ld4 Tryz.st4 Tryz.ld50 Tryz.st50 Tryz.ld32 Tryz.st32 Tryz.ld49 Tryz.st49 Tryz.ld68 Tryz.st68 Tryz.ld9 Tryz.st9 Tryz.ld40 Tryz.st40 Tryz.ld138 Tryz.st138 Tryz.ld139 Tryz.st139 Tryz.ld146 Tryz.st146 Tryz.ld183 Tryz.st183 Tryz.ld184 Tryz.st184 Tryz.ld192 Tryz.st192 Tryz.ld195 Tryz.st195 Tryz.ld217 Tryz.st217 Tryz.ld159 Tryz.st159 Tryz.ld142 Tryz.st142 Tryz.ld2 Tryz.st2 Tryz.ld5 Tryz.st5 Tryz.ld12 Tryz.st12 Tryz.ld21 Tryz.st21 Tryz.ld22 Tryz.st22 Tryz.ld24 Tryz.st24 Tryz.ld58 Tryz.st58 Tryz.ld97 Tryz.st97 Tryz.ld101 Tryz.st101 Tryz.ld116 Tryz.st116 Tryz.ld121 Tryz.st121 Tryz.ld135 Tryz.st135 Tryz.ld136 Tryz.st136 Tryz.ld143 Tryz.st143 Tryz.ld148 Tryz.st148 Tryz.ld154 Tryz.st154 Tryz.ld173 Tryz.st173 Tryz.ld187 Tryz.st187 Tryz.ld222 Tryz.st222 Tryz.ld241 Tryz.st241 Tryz.ld248 Tryz.st248 Tryz.ld268 Tryz.st268 Tryz.ld272 Tryz.st272 Tryz.ld153 Tryz.st153 Tryz.ld255 Tryz.st255 Tryz.ld256 Tryz.st256 Tryz.ld129 Tryz.st129 Tryz.ld152 Tryz.st152 Tryz.ld31 Tryz.st31 Tryz.ld46 Tryz.st46 Tryz.ld52 Tryz.st52 Tryz.ld54 Tryz.st54 Tryz.ld60 Tryz.st60 Tryz.ld70 Tryz.st70 Tryz.ld74 Tryz.st74 Tryz.ld93 Tryz.st93 Tryz.ld141 Tryz.st141 Tryz.ld151 Tryz.st151 Tryz.ld170 Tryz.st170 Tryz.ld186 Tryz.st186 Tryz.ld189 Tryz.st189 Tryz.ld194 Tryz.st194 Tryz.ld197 Tryz.st197 Tryz.ld219 Tryz.st219 Tryz.ld224 Tryz.st224 Tryz.ld230 Tryz.st230 Tryz.ld235 Tryz.st235 Tryz.ld243 Tryz.st243 Tryz.ld247 Tryz.st247 Tryz.ld252 Tryz.st252 Tryz.ld258 Tryz.st258 Tryz.al153 Tryz.al255 Tryz.al256 Tryz.al129 Tryz.al152 Tryz.al31 Tryz.al46 Tryz.al52 Tryz.al54 Tryz.al60 Tryz.al70 Tryz.al74 Tryz.al93 Tryz.al141 Tryz.al151 Tryz.al170 Tryz.al186 Tryz.al189 Tryz.al194 Tryz.al197 Tryz.al219 Tryz.al224 Tryz.al230 Tryz.al235 Tryz.al243 Tryz.al247 Tryz.al252 Tryz.al258
attribute [local go_sem] Request.length_enc Request.ok_enc Request.all_get Request.all_set Request.kind_get Request.kind_set Request.blob_get Request.blob_set Request.items_get Request.items_set Request.pred_get Request.pred_set Request.slots_get Request.slots_set Trace.length_enc Trace.ok_enc Trace.all_get Trace.all_set Trace.op_get Trace.op_set Trace.calls_get Trace.calls_set Item.length_enc Item.ok_enc Item.all_get Item.all_set Item.del_get Item.del_set Item.pred_get Item.pred_set Item.args_get Item.args_set Reply.length_enc Reply.ok_enc Reply.all_get Reply.all_set Reply.code_get Reply.code_set Reply.kind_get Reply.kind_set Reply.index_get Reply.index_set Reply.yes_get Reply.yes_set Reply.preds_get Reply.preds_set Reply.rules_get Reply.rules_set Reply.arity_get Reply.arity_set Reply.rows_get Reply.rows_set Reply.fact_get Reply.fact_set Reply.fact_del_get Reply.fact_del_set Reply.fact_pred_get Reply.fact_pred_set Reply.fact_args_get Reply.fact_args_set GEntry.length_enc GEntry.ok_enc GEntry.all_get GEntry.all_set GEntry.seq_get GEntry.seq_set GEntry.kind_get GEntry.kind_set GEntry.code_get GEntry.code_set GOp.length_enc GOp.ok_enc GOp.all_get GOp.all_set GOp.kind_get GOp.kind_set GOp.raw_get GOp.raw_set Reader.length_enc Reader.ok_enc Reader.all_get Reader.all_set Reader.buf_get Reader.buf_set Reader.at__get Reader.at__set Slot.length_enc Slot.ok_enc Slot.all_get Slot.all_set Slot.bound_get Slot.bound_set Slot.name_get Slot.name_set Session.length_enc Session.ok_enc Session.all_get Session.all_set Session.svc_get Session.svc_set Session.buf_get Session.buf_set Session.closed_get Session.closed_set GProgram.length_enc GProgram.ok_enc GProgram.all_get GProgram.all_set GProgram.pool_get GProgram.pool_set GProgram.preds_get GProgram.preds_set GProgram.rules_get GProgram.rules_set GProgram.strata_get GProgram.strata_set PredInfo.length_enc PredInfo.ok_enc PredInfo.all_get PredInfo.all_set PredInfo.arity_get PredInfo.arity_set PredInfo.base_get PredInfo.base_set PredInfo.stratum_get PredInfo.stratum_set Change.length_enc Change.ok_enc Change.all_get Change.all_set Change.del_get Change.del_set Change.pred_get Change.pred_set Change.t_get Change.t_set Store.length_enc Store.ok_enc Store.all_get Store.all_set Store.names_get Store.names_set Store.arity_get Store.arity_set Store.rows_get Store.rows_set Src.length_enc Src.ok_enc Src.all_get Src.all_set Src.b_get Src.b_set Src.at__get Src.at__set Atom.length_enc Atom.ok_enc Atom.all_get Atom.all_set Atom.pred_get Atom.pred_set Atom.args_get Atom.args_set GRule.length_enc GRule.ok_enc GRule.all_get GRule.all_set GRule.head_get GRule.head_set GRule.body_get GRule.body_set GRule.head_pred_get GRule.head_pred_set GRule.head_args_get GRule.head_args_set Cert.length_enc Cert.ok_enc Cert.all_get Cert.all_set Cert.names_get Cert.names_set Cert.nodes_get Cert.nodes_set Fact.length_enc Fact.ok_enc Fact.all_get Fact.all_set Fact.pred_get Fact.pred_set Fact.t_get Fact.t_set Literal.length_enc Literal.ok_enc Literal.all_get Literal.all_set Literal.neg_get Literal.neg_set Literal.atom_get Literal.atom_set Literal.atom_pred_get Literal.atom_pred_set Literal.atom_args_get Literal.atom_args_set Engine.length_enc Engine.ok_enc Engine.all_get Engine.all_set Engine.prog_get Engine.prog_set Engine.st_get Engine.st_set SrcCertm.length_enc SrcCertm.ok_enc SrcCertm.all_get SrcCertm.all_set SrcCertm.b_get SrcCertm.b_set SrcCertm.at__get SrcCertm.at__set GNode.length_enc GNode.ok_enc GNode.all_get GNode.all_set GNode.rule_get GNode.rule_set GNode.pred_get GNode.pred_set GNode.vals_get GNode.vals_set GNode.refs_get GNode.refs_set Term.length_enc Term.ok_enc Term.all_get Term.all_set Term.var_get Term.var_set Term.n_get Term.n_set Env.length_enc Env.ok_enc Env.all_get Env.all_set Env.val_get Env.val_set Env.set_get Env.set_set
attribute [local go_sem] size_put size_ext blk_put free_put blk_alloc free_alloc blk_drew free_drew blk_ext free_ext lookOr_some putOr_some segAt_some cellAt_some storeIn_some put_put put_alloc_new length_arr ok_arr_u8 ok_arr_u32 ok_arr_u64 ok_arr_i64 ok_arr_sl cellsV_agg cellsV_int cellsV_bool cellsV_string cellsV_pointer cellsV_slice cellsV_sl ok_int ok_bool ok_string ok_pointer ok_slice ok_sl toList_arr seg_arr set_arr nth_splice nth_splice0 seg_splice seg_splice0 splice_splice splice_splice0 length_splice_if
attribute [local go_sem ↓] execOp_box
attribute [local go_sem] box_run nth_arr_u8 put_arr_u8 blk_drewN free_drewN put_drewN blk_raw free_raw
/-- An atom over names, under a substitution. -/
def gN (pool : List (List UInt8)) (a : PA) (τ : Nat → List UInt8) : NRow := a.args.map fun t => if t.var then τ t.n.toNat else pool.getD t.n.toNat []
theorem instF_gN (pool vals : List (List UInt8)) (a : PA) : instF pool vals a = gN pool a (fun v => vals.getD v []) := rfl
theorem gN_congr {pool : List (List UInt8)} {a : PA} {τ τ' : Nat → List UInt8} (h : ∀ t ∈ a.args, t.var = true → τ t.n.toNat = τ' t.n.toNat) : gN pool a τ = gN pool a τ' := by
  unfold gN
  apply List.map_congr_left
  intro t ht
  by_cases e : t.var = true
  · rw [if_pos e, if_pos e]; exact h t ht e
  · rw [if_neg e, if_neg e]
/-- The named rows as a set. -/
def memN (F : List (List NRow)) (q : Nat) (x : NRow) : Prop := x ∈ F.getD q []
theorem holdB_iff {pool vals : List (List UInt8)} {F : List (List NRow)} {r : PR} : holdB pool vals F r.body = true ↔ BodG (gN pool) (memN F) r (fun v => vals.getD v []) := by
  unfold holdB BodG
  rw [List.all_eq_true]
  constructor
  · intro h
    refine ⟨fun z hz hn => ?_, fun z hz hn hm => ?_⟩
    · have h1 := h z hz
      unfold litB at h1
      rw [hn] at h1
      have h2 : decide (instF pool vals z.atom ∈ F.getD z.atom.pred []) = true := by
        cases hd : decide (instF pool vals z.atom ∈ F.getD z.atom.pred []) with
        | true => rfl
        | false => rw [hd] at h1; cases h1
      exact (of_decide_eq_true h2 : instF pool vals z.atom ∈ F.getD z.atom.pred [])
    · have h1 := h z hz
      unfold litB at h1
      rw [hn, decide_eq_true (show instF pool vals z.atom ∈ F.getD z.atom.pred [] from hm)] at h1
      cases h1
  · rintro ⟨h1, h2⟩ z hz
    unfold litB
    cases hn : z.neg with
    | false => rw [decide_eq_true (show instF pool vals z.atom ∈ F.getD z.atom.pred [] from h1 z hz hn)]; rfl
    | true => rw [decide_eq_false (show instF pool vals z.atom ∉ F.getD z.atom.pred [] from h2 z hz hn)]; rfl
theorem bodG_congr {pool : List (List UInt8)} {R : Nat → NRow → Prop} {r : PR} {τ τ' : Nat → List UInt8} (h : ∀ a ∈ atomsOf r, gN pool a τ = gN pool a τ') (hb : BodG (gN pool) R r τ) : BodG (gN pool) R r τ' := by
  have hz : ∀ z ∈ r.body, gN pool z.atom τ = gN pool z.atom τ' := fun z hz => h _ (List.mem_cons_of_mem _ (List.mem_map.2 ⟨z, hz, rfl⟩))
  exact ⟨fun z h1 h2 => by rw [← hz z h1]; exact hb.1 z h1 h2, fun z h1 h2 => by rw [← hz z h1]; exact hb.2 z h1 h2⟩
/-- The steps tell a fact. -/
def inS (S : List NStep) (q : Nat) (x : NRow) : Prop := ∃ s ∈ S, s.pred = q ∧ s.row = x
theorem inS_kn {S : List NStep} {q : Nat} {x : NRow} (h : knB S q x = true) : inS S q x := by
  unfold knB at h
  obtain ⟨s, hs, h1⟩ := List.any_eq_true.1 h
  rw [Bool.and_eq_true, decide_eq_true_eq, decide_eq_true_eq] at h1
  exact ⟨s, hs, h1⟩
/-- A step that a rule found. -/
def StpR (pool : List (List UInt8)) (F : List (List NRow)) (r : PR) (s : NStep) : Prop := ∃ τ, s.pred = r.head.pred ∧ s.row = gN pool r.head τ ∧ BodG (gN pool) (memN F) r τ
theorem addF_sub {pool : List (List UInt8)} {F : List (List NRow)} {r : PR} {n : Nat} {vals : List (List UInt8)} {S : List NStep} : ∀ s ∈ S, s ∈ addF pool F r n vals S := fun s hs => by
  unfold addF
  split
  · split
    · exact hs
    · split
      · exact hs
      · exact List.mem_append_left _ hs
  · exact hs
theorem addF_snd {pool : List (List UInt8)} {F : List (List NRow)} {r : PR} {n : Nat} {vals : List (List UInt8)} {S : List NStep} {s : NStep} (h : s ∈ addF pool F r n vals S) : s ∈ S ∨ StpR pool F r s := by
  unfold addF at h
  split at h
  · rename_i hh
    split at h
    · exact .inl h
    · split at h
      · exact .inl h
      · rcases List.mem_append.1 h with h | h
        · exact .inl h
        · rw [List.mem_singleton.1 h]
          exact .inr ⟨_, rfl, rfl, holdB_iff.1 hh⟩
  · exact .inl h
theorem addF_cmp {pool : List (List UInt8)} {F : List (List NRow)} {r : PR} {n : Nat} {vals : List (List UInt8)} {S : List NStep} (h : holdB pool vals F r.body = true) : memN F r.head.pred (instF pool vals r.head) ∨ inS (addF pool F r n vals S) r.head.pred (instF pool vals r.head) := by
  unfold addF
  rw [if_pos h]
  split
  · rename_i h1; exact .inl h1
  · split
    · rename_i h2; exact .inr (inS_kn h2)
    · exact .inr ⟨_, List.mem_append_right _ (List.mem_singleton.2 rfl), rfl, rfl⟩
theorem ConTo.sub {pool dom : List (List UInt8)} {F : List (List NRow)} {r : PR} {n : Nat} {dg : List Nat} {vals : List (List UInt8)} {S out : List NStep} (h : ConTo pool dom F r n dg vals S out) : ∀ s ∈ S, s ∈ out := by
  induction h with
  | stop dg vals S _ => exact addF_sub
  | go dg dg' vals S out _ _ ih => exact fun s hs => ih s (addF_sub s hs)
theorem ConTo.snd {pool dom : List (List UInt8)} {F : List (List NRow)} {r : PR} {n : Nat} {dg : List Nat} {vals : List (List UInt8)} {S out : List NStep} (h : ConTo pool dom F r n dg vals S out) : ∀ s ∈ out, s ∈ S ∨ StpR pool F r s := by
  induction h with
  | stop dg vals S _ => exact fun s hs => addF_snd hs
  | go dg dg' vals S out _ _ ih =>
    intro s hs
    rcases ih s hs with h | h
    · exact addF_snd h
    · exact .inr h
theorem incF_none {k : Nat} : ∀ {dg : List Nat}, incF k dg = none → remM k dg = 0 ∨ ∃ d ∈ dg, k ≤ d
  | [], _ => .inl rfl
  | d :: ds, h => by
    unfold incF at h
    by_cases e : d + 1 = k
    · rw [if_pos e] at h
      cases hi : incF k ds with
      | some y => rw [hi] at h; cases h
      | none =>
        rcases incF_none hi with h1 | ⟨x, hx, hk⟩
        · refine .inl ?_
          show (k - 1 - d) + k * remM k ds = 0
          rw [h1]; omega
        · exact .inr ⟨x, List.mem_cons_of_mem _ hx, hk⟩
    · rw [if_neg e] at h; cases h
theorem incF_one {k : Nat} : ∀ {dg dg' : List Nat}, DgOk k dg → incF k dg = some dg' → remM k dg = remM k dg' + 1
  | [], dg', _, h => by cases h
  | d :: ds, dg', hd, h => by
    have hds : DgOk k ds := fun x hx => hd x (List.mem_cons_of_mem _ hx)
    have hdk := hd d List.mem_cons_self
    unfold incF at h
    by_cases e : d + 1 = k
    · rw [if_pos e] at h
      cases hi : incF k ds with
      | none => rw [hi] at h; cases h
      | some ds' =>
        rw [hi] at h
        have e1 : dg' = 0 :: ds' := (Option.some.inj h).symm
        have h1 := incF_one hds hi
        rw [e1]
        show (k - 1 - d) + k * remM k ds = (k - 1 - 0) + k * remM k ds' + 1
        rw [h1, Nat.mul_add]
        omega
    · rw [if_neg e] at h
      have e1 : dg' = (d + 1) :: ds := (Option.some.inj h).symm
      rw [e1]
      show (k - 1 - d) + k * remM k ds = (k - 1 - (d + 1)) + k * remM k ds + 1
      omega
theorem remM_inj {k : Nat} : ∀ {dg dg' : List Nat}, DgOk k dg → DgOk k dg' → dg.length = dg'.length → remM k dg = remM k dg' → dg = dg'
  | [], [], _, _, _, _ => rfl
  | [], _ :: _, _, _, h, _ => by cases h
  | _ :: _, [], _, _, h, _ => by cases h
  | d :: ds, e :: es, h1, h2, hl, h => by
    have hd := h1 d List.mem_cons_self
    have he := h2 e List.mem_cons_self
    have h9 : (k - 1 - d) + k * remM k ds = (k - 1 - e) + k * remM k es := h
    have e1 : (k - 1 - d) = (k - 1 - e) := by
      have a1 := congrArg (· % k) h9
      rw [Nat.add_mul_mod_self_left, Nat.add_mul_mod_self_left, Nat.mod_eq_of_lt (by omega), Nat.mod_eq_of_lt (by omega)] at a1
      exact a1
    have e2 : k * remM k ds = k * remM k es := by omega
    have e3 : remM k ds = remM k es := Nat.eq_of_mul_eq_mul_left (by omega) e2
    have e4 := remM_inj (fun x hx => h1 x (List.mem_cons_of_mem _ hx)) (fun x hx => h2 x (List.mem_cons_of_mem _ hx)) (by simpa using hl) e3
    rw [e4, show d = e by omega]
theorem remM_top {k : Nat} : ∀ (dg : List Nat), remM k dg ≤ remM k (List.replicate dg.length 0)
  | [] => Nat.le_refl _
  | d :: ds => by
    have ih := remM_top (k := k) ds
    show (k - 1 - d) + k * remM k ds ≤ (k - 1 - 0) + k * remM k (List.replicate ds.length 0)
    have := Nat.mul_le_mul_left k ih
    omega
theorem setI_get {vars : List Int} {dom : List (List UInt8)} {dg : List Nat} {vals : List (List UInt8)} (hn : vars.Nodup) (hv : ∀ v ∈ vars, 0 ≤ v ∧ v < (vals.length : Int)) : ∀ i, i ≤ vars.length → ∀ j, j < i → (setI vars dom dg vals i).getD (vars.getD j 0).toNat [] = dom.getD (dg.getD j 0) []
  | 0, _, j, hj => by omega
  | i + 1, hi, j, hj => by
    rw [setI_succ]
    have hat : ∀ m, m < vars.length → vars[m]? = some (vars.getD m 0) := fun m hm => by rw [List.getD_eq_getElem?_getD, List.getElem?_eq_getElem hm]; rfl
    have hvi := hv (vars.getD i 0) (List.mem_of_getElem? (hat i (by omega)))
    have hvj := hv (vars.getD j 0) (List.mem_of_getElem? (hat j (by omega)))
    rw [List.getD_eq_getElem?_getD, List.getElem?_set]
    split
    · rename_i e
      rw [if_pos (by rw [setI_len]; omega)]
      have e2 : vars.getD i 0 = vars.getD j 0 := by omega
      have e3 : i = j := by
        have h1 := hat i (by omega)
        have h2 := hat j (by omega)
        rw [e2] at h1
        exact (List.getElem?_inj (by omega : i < vars.length) hn).1 (h1.trans h2.symm)
      rw [e3]; rfl
    · rename_i e
      have hne : j ≠ i := fun e9 => e (by rw [e9])
      rw [← List.getD_eq_getElem?_getD]
      exact setI_get hn hv i (by omega) j (by omega)
theorem vaA_nd {vs : List Int} {t : Term} (h : vs.Nodup) : (vaA vs t).Nodup := by
  unfold vaA
  split
  · rename_i h1
    rw [List.nodup_append]
    refine ⟨h, by simp, fun x hx y hy e => ?_⟩
    rw [List.mem_singleton.1 hy] at e
    exact h1.2 (e ▸ hx)
  · exact h
theorem foldA_nd : ∀ (ts : List Term) {vs : List Int}, vs.Nodup → (ts.foldl vaA vs).Nodup
  | [], _, h => h
  | t :: ts, _, h => foldA_nd ts (vaA_nd h)
theorem foldL_nd : ∀ (As : List PA) {vs : List Int}, vs.Nodup → (As.foldl vaL vs).Nodup
  | [], _, h => h
  | a :: As, _, h => foldL_nd As (foldA_nd a.args h)
theorem varsF_nd (r : PR) : (varsF r).Nodup := foldL_nd _ List.nodup_nil
/-- The digits of a substitution. -/
def dgT (dom : List (List UInt8)) (r : PR) (τ : Nat → List UInt8) : List Nat := (varsF r).map fun v => dom.idxOf (τ v.toNat)
theorem at_dg {pool dom : List (List UInt8)} {r : PR} {N : Nat} (hr : RuFit pool r N) {τ : Nat → List UInt8} (hτ : ∀ v ∈ varsF r, τ v.toNat ∈ dom) {vals : List (List UInt8)} (hl : vals.length = 32) : ∀ a ∈ atomsOf r, instF pool (setI (varsF r) dom (dgT dom r τ) vals (varsF r).length) a = gN pool a τ := fun a ha => by
  rw [instF_gN]
  apply gN_congr
  intro t ht hv
  have hm : t.n ∈ varsF r := varsF_mem.2 ⟨a, ha, t, ht, hv, rfl⟩
  obtain ⟨j, hj⟩ := List.mem_iff_getElem?.1 hm
  have hjl := (List.getElem?_eq_some_iff.1 hj).1
  have e1 : (varsF r).getD j 0 = t.n := by rw [List.getD_eq_getElem?_getD, hj]; rfl
  have h1 := setI_get (dom := dom) (dg := dgT dom r τ) (vals := vals) (varsF_nd r) (fun v hv => by rw [hl]; exact hr.vars v hv) _ (Nat.le_refl _) j hjl
  rw [e1] at h1
  show (setI (varsF r) dom (dgT dom r τ) vals (varsF r).length).getD t.n.toNat [] = τ t.n.toNat
  rw [h1]
  have e2 : (dgT dom r τ).getD j 0 = dom.idxOf (τ t.n.toNat) := by
    unfold dgT
    rw [List.getD_eq_getElem?_getD, List.getElem?_map, hj]; rfl
  rw [e2]
  have hlt := List.idxOf_lt_length_of_mem (hτ _ hm)
  rw [List.getD_eq_getElem?_getD, List.getElem?_eq_getElem hlt]
  exact List.getElem_idxOf hlt
/-- The count meets every substitution. -/
theorem ConTo.cmp {pool dom : List (List UInt8)} {F : List (List NRow)} {r : PR} {n N : Nat} (hr : RuFit pool r N) {τ : Nat → List UInt8} (hτ : ∀ v ∈ varsF r, τ v.toNat ∈ dom) (hb : BodG (gN pool) (memN F) r τ) {dg : List Nat} {vals : List (List UInt8)} {S out : List NStep} (h : ConTo pool dom F r n dg vals S out) : DgOk dom.length dg → dg.length = (varsF r).length → vals.length = 32 → remM dom.length (dgT dom r τ) ≤ remM dom.length dg → memN F r.head.pred (gN pool r.head τ) ∨ inS out r.head.pred (gN pool r.head τ) := by
  have hok : DgOk dom.length (dgT dom r τ) := fun d hd => by
    obtain ⟨v, hv, rfl⟩ := List.mem_map.1 hd
    exact List.idxOf_lt_length_of_mem (hτ v hv)
  have hlen : (dgT dom r τ).length = (varsF r).length := List.length_map ..
  have key : ∀ (vals : List (List UInt8)) (S : List NStep), vals.length = 32 → memN F r.head.pred (gN pool r.head τ) ∨ inS (addF pool F r n (setI (varsF r) dom (dgT dom r τ) vals (varsF r).length) S) r.head.pred (gN pool r.head τ) := fun vals S hl => by
    have hat := at_dg hr hτ hl
    have h1 := addF_cmp (pool := pool) (F := F) (r := r) (n := n) (vals := setI (varsF r) dom (dgT dom r τ) vals (varsF r).length) (S := S) (holdB_iff.2 (bodG_congr (fun a ha => (hat a ha).symm) hb))
    rw [hat r.head List.mem_cons_self] at h1
    exact h1
  induction h with
  | stop dg vals S hi =>
    intro h1 h2 h3 h4
    rcases incF_none hi with h5 | ⟨d, hd, hk⟩
    · have e := remM_inj hok h1 (by omega) (by omega)
      rw [← e]
      exact key vals S h3
    · have := h1 d hd
      omega
  | go dg dg' vals S out hi hc ih =>
    intro h1 h2 h3 h4
    obtain ⟨-, h6, h7⟩ := incF_rem h1 hi
    have h5 := incF_one h1 hi
    by_cases e : remM dom.length (dgT dom r τ) = remM dom.length dg
    · have e := remM_inj hok h1 (by omega) e
      rw [← e] at hc
      rcases key vals S h3 with h9 | ⟨s, hs, h9⟩
      · exact .inl h9
      · exact .inr ⟨s, hc.sub s hs, h9⟩
    · exact ih h6 (by omega) (by rw [setI_len]; exact h3) (by omega)
theorem conR.sub {pool dom : List (List UInt8)} {F : List (List NRow)} {r : PR} {n : Nat} {S out : List NStep} (h : conR pool dom F r n S out) : ∀ s ∈ S, s ∈ out := by
  rcases h with ⟨_, _, h⟩ | ⟨_, h⟩
  · rw [h]; exact fun s hs => hs
  · exact h.sub
theorem conR.snd {pool dom : List (List UInt8)} {F : List (List NRow)} {r : PR} {n : Nat} {S out : List NStep} (h : conR pool dom F r n S out) : ∀ s ∈ out, s ∈ S ∨ StpR pool F r s := by
  rcases h with ⟨_, _, h⟩ | ⟨_, h⟩
  · rw [h]; exact fun s hs => .inl hs
  · exact h.snd
theorem conR.cmp {pool dom : List (List UInt8)} {F : List (List NRow)} {r : PR} {n N : Nat} {S out : List NStep} (h : conR pool dom F r n S out) (hr : RuFit pool r N) {τ : Nat → List UInt8} (hτ : ∀ v ∈ varsF r, τ v.toNat ∈ dom) (hb : BodG (gN pool) (memN F) r τ) : memN F r.head.pred (gN pool r.head τ) ∨ inS out r.head.pred (gN pool r.head τ) := by
  rcases h with ⟨h1, h2, _⟩ | ⟨h1, h⟩
  · obtain ⟨v, hv⟩ := List.exists_mem_of_ne_nil _ h1
    have := hτ v hv
    rw [h2] at this
    cases this
  · have h5 := remM_top (k := dom.length) (dgT dom r τ)
    have hlen : (dgT dom r τ).length = (varsF r).length := List.length_map ..
    rw [hlen] at h5
    refine h.cmp hr hτ hb (fun d hd => ?_) (by simp) (by simp) h5
    have hd9 := List.eq_of_mem_replicate hd
    have hvne : varsF r ≠ [] := fun e => by rw [e] at hd; cases hd
    have : dom ≠ [] := fun e => h1 ⟨hvne, e⟩
    have := List.length_pos_iff.2 this
    omega
/-- Range restriction: the values of a rule whose body holds are those of the facts. -/
theorem tau_dom {pool dom : List (List UInt8)} {F : List (List NRow)} (hF : ∀ q x, memN F q x → ∀ y ∈ x, y ∈ dom) {r : PR} (hres : resB r = true) {τ : Nat → List UInt8} (hb : BodG (gN pool) (memN F) r τ) : ∀ v ∈ varsF r, τ v.toNat ∈ dom := fun v hv => by
  obtain ⟨a, ha, t, ht, hvar, rfl⟩ := varsF_mem.1 hv
  obtain ⟨hch, hcn⟩ := res_cov hres
  have pos : ∀ z ∈ r.body, z.neg = false → ∀ u ∈ z.atom.args, u.var = true → τ u.n.toNat ∈ dom := fun z hz hn u hu huv => by
    refine hF _ _ (hb.1 z hz hn) _ ?_
    unfold gN
    exact List.mem_map.2 ⟨u, hu, by rw [if_pos huv]⟩
  have cov : ∀ b : PA, covB r b = true → ∀ u ∈ b.args, u.var = true → τ u.n.toNat ∈ dom := fun b hc u hu huv => by
    have h1 := List.all_eq_true.1 hc u hu
    rw [huv] at h1
    have h2 : posB r u.n = true := by simpa using h1
    unfold posB at h2
    obtain ⟨l, hl, h3⟩ := List.any_eq_true.1 h2
    rw [Bool.and_eq_true] at h3
    obtain ⟨w, hw, h4⟩ := List.any_eq_true.1 h3.2
    rw [Bool.and_eq_true] at h4
    have h5 := pos l hl (by simpa using h3.1) w hw h4.1
    have h6 : w.n = u.n := by simpa using h4.2
    rw [h6] at h5
    exact h5
  unfold atomsOf at ha
  rcases List.mem_cons.1 ha with rfl | ha
  · exact cov _ hch t ht hvar
  · obtain ⟨z, hz, rfl⟩ := List.mem_map.1 ha
    cases hn : z.neg with
    | false => exact pos z hz hn t ht hvar
    | true => exact cov _ (hcn z hz hn) t ht hvar
theorem RdTo.sub {p : PP} {dom : List (List UInt8)} {F : List (List NRow)} {s n : Nat} {S out : List NStep} (h : RdTo p dom F s n S out) : ∀ x ∈ S, x ∈ out := by
  induction h with
  | fin n S _ => exact fun x hx => hx
  | skip n S out r _ _ _ ih => exact ih
  | take n S S1 out r _ _ hc _ ih => exact fun x hx => ih x (hc.sub x hx)
theorem RdTo.snd {p : PP} {dom : List (List UInt8)} {F : List (List NRow)} {s n : Nat} {S out : List NStep} (h : RdTo p dom F s n S out) : ∀ x ∈ out, x ∈ S ∨ ∃ r ∈ p.rules, (pI p r.head.pred).stratum = (s : Int) ∧ StpR p.pool F r x := by
  induction h with
  | fin n S _ => exact fun x hx => .inl hx
  | skip n S out r _ _ _ ih => exact ih
  | take n S S1 out r hr hs hc _ ih =>
    intro x hx
    rcases ih x hx with h | h
    · rcases hc.snd x h with h | h
      · exact .inl h
      · exact .inr ⟨r, List.mem_of_getElem? hr, hs, h⟩
    · exact .inr h
theorem RdTo.cmp {p : PP} {dom : List (List UInt8)} {F : List (List NRow)} {N : Nat} (hp : ∀ r ∈ p.rules, RuFit p.pool r N ∧ resB r = true) (hF : ∀ q x, memN F q x → ∀ y ∈ x, y ∈ dom) {s n : Nat} {S out : List NStep} (h : RdTo p dom F s n S out) : ∀ m r, n ≤ m → p.rules[m]? = some r → (pI p r.head.pred).stratum = (s : Int) → ∀ τ, BodG (gN p.pool) (memN F) r τ → memN F r.head.pred (gN p.pool r.head τ) ∨ inS out r.head.pred (gN p.pool r.head τ) := by
  induction h with
  | fin n S h =>
    intro m r hm hr
    have := (List.getElem?_eq_some_iff.1 hr).1
    omega
  | skip n S out r hr hs _ ih =>
    intro m r' hm hr' hs' τ hb
    by_cases e : m = n
    · subst e
      rw [hr] at hr'
      cases hr'
      exact absurd hs' hs
    · exact ih m r' (by omega) hr' hs' τ hb
  | take n S S1 out r hr hs hc hrest ih =>
    intro m r' hm hr' hs' τ hb
    by_cases e : m = n
    · subst e
      rw [hr] at hr'
      cases hr'
      have hm := hp r (List.mem_of_getElem? hr)
      rcases hc.cmp hm.1 (tau_dom hF hm.2 hb) hb with h | ⟨x, hx, h⟩
      · exact .inl h
      · exact .inr ⟨x, hrest.sub x hx, h⟩
    · exact ih m r' (by omega) hr' hs' τ hb
theorem memN_add {F : List (List NRow)} {h q : Nat} {t u : NRow} (hh : h < F.length) : memN (addRN F h t) q u ↔ memN F q u ∨ (q = h ∧ u = t) := by
  unfold memN addRN
  by_cases e : q = h
  · subst e
    rw [List.getD_eq_getElem?_getD (l := F.set _ _), List.getElem?_set_self hh]
    show u ∈ F.getD q [] ++ [t] ↔ _
    rw [List.mem_append, List.mem_singleton]
    exact ⟨fun h8 => h8.elim .inl (fun e => .inr ⟨rfl, e⟩), fun h8 => h8.elim .inl (fun e => .inr e.2)⟩
  · rw [List.getD_eq_getElem?_getD (l := F.set _ _), List.getElem?_set_ne (Ne.symm e), ← List.getD_eq_getElem?_getD]
    exact ⟨.inl, fun h8 => h8.elim id (fun h7 => absurd h7.1 e)⟩
theorem memN_all : ∀ (S : List NStep) (F : List (List NRow)), (∀ s ∈ S, s.pred < F.length) → ∀ q x, memN (addAll F S) q x ↔ memN F q x ∨ inS S q x
  | [], F, _, q, x => ⟨.inl, fun h => h.elim id (fun ⟨s, hs, _⟩ => by cases hs)⟩
  | s :: S, F, h, q, x => by
    show memN (addAll (addRN F s.pred s.row) S) q x ↔ _
    rw [memN_all S _ (fun y hy => by rw [addRN_len]; exact h y (List.mem_cons_of_mem _ hy)), memN_add (h s List.mem_cons_self)]
    constructor
    · rintro ((h | h) | ⟨y, hy, h⟩)
      · exact .inl h
      · exact .inr ⟨s, List.mem_cons_self, h.1.symm, h.2.symm⟩
      · exact .inr ⟨y, List.mem_cons_of_mem _ hy, h⟩
    · rintro (h9 | ⟨y, hy, h9⟩)
      · exact .inl (.inl h9)
      · rcases List.mem_cons.1 hy with e | hy
        · rw [e] at h9
          exact .inl (.inr ⟨h9.1.symm, h9.2.symm⟩)
        · exact .inr ⟨y, hy, h9⟩
/-- The values of a head are those of the pool and of the facts. -/
theorem head_dom {pool dom : List (List UInt8)} {F : List (List NRow)} {N : Nat} (hpool : ∀ x ∈ pool, x ∈ dom) (hF : ∀ q x, memN F q x → ∀ y ∈ x, y ∈ dom) {r : PR} (hr : RuFit pool r N) (hres : resB r = true) {τ : Nat → List UInt8} (hb : BodG (gN pool) (memN F) r τ) : ∀ y ∈ gN pool r.head τ, y ∈ dom := fun y hy => by
  unfold gN at hy
  obtain ⟨t, ht, rfl⟩ := List.mem_map.1 hy
  by_cases hv : t.var = true
  · rw [if_pos hv]
    exact tau_dom hF hres hb _ (varsF_mem.2 ⟨_, List.mem_cons_self, t, ht, hv, rfl⟩)
  · rw [if_neg hv]
    obtain ⟨c, hc⟩ := List.mem_iff_getElem?.1 ht
    have hcl := (List.getElem?_eq_some_iff.1 hc).1
    have e : t = tA r.head c := by rw [tA_at hcl] at hc; exact (Option.some.inj hc).symm
    have h9 := hr.tm _ List.mem_cons_self c hcl
    rw [← e] at h9
    have h8 := h9.2.2 (by simpa using hv)
    refine hpool _ ?_
    rw [List.getD_eq_getElem?_getD, List.getElem?_eq_getElem (by omega)]
    exact List.getElem_mem _
/-- The rows of each list differ, and are not those that come. -/
theorem nd_all : ∀ (S : List NStep) (F : List (List NRow)), (∀ s ∈ S, s.pred < F.length) → (∀ q, (F.getD q []).Nodup) → (S.map fun s => (s.pred, s.row)).Nodup → (∀ s ∈ S, ¬ memN F s.pred s.row) → ∀ q, ((addAll F S).getD q []).Nodup
  | [], F, _, h, _, _ => h
  | s :: S, F, hl, h, hn, hm => by
    rw [List.map_cons, List.nodup_cons] at hn
    refine nd_all S (addRN F s.pred s.row) (fun y hy => by rw [addRN_len]; exact hl y (List.mem_cons_of_mem _ hy)) (fun q => ?_) hn.2 (fun y hy h9 => ?_)
    · unfold addRN
      by_cases e : q = s.pred
      · rw [e, List.getD_eq_getElem?_getD, List.getElem?_set_self (hl s List.mem_cons_self)]
        show (F.getD s.pred [] ++ [s.row]).Nodup
        rw [List.nodup_append]
        refine ⟨h _, by simp, fun x hx y hy e9 => ?_⟩
        rw [List.mem_singleton.1 hy] at e9
        exact hm s List.mem_cons_self (e9 ▸ hx)
      · rw [List.getD_eq_getElem?_getD, List.getElem?_set_ne (Ne.symm e), ← List.getD_eq_getElem?_getD]
        exact h q
    · rcases (memN_add (hl s List.mem_cons_self)).1 h9 with h9 | ⟨h8, h9⟩
      · exact hm y (List.mem_cons_of_mem _ hy) h9
      · exact hn.1 (List.mem_map.2 ⟨y, hy, by rw [h8, h9]⟩)
/-- What a round finds: facts, each once, and new. -/
def NewS (F : List (List NRow)) (S : List NStep) : Prop := (S.map fun s => (s.pred, s.row)).Nodup ∧ ∀ s ∈ S, ¬ memN F s.pred s.row
theorem addF_new {pool : List (List UInt8)} {F : List (List NRow)} {r : PR} {n : Nat} {vals : List (List UInt8)} {S : List NStep} (h : NewS F S) : NewS F (addF pool F r n vals S) := by
  unfold addF
  split
  · split
    · exact h
    · split
      · exact h
      · rename_i h1 h2 h3
        refine ⟨?_, fun s hs => ?_⟩
        · rw [List.map_append, List.nodup_append]
          refine ⟨h.1, by simp, fun x hx y hy e => ?_⟩
          rw [List.map_cons, List.map_nil, List.mem_singleton] at hy
          obtain ⟨s, hs, rfl⟩ := List.mem_map.1 hx
          rw [hy] at e
          obtain ⟨j, hj⟩ := List.mem_iff_getElem?.1 hs
          exact h3 (knB_yes hj (Prod.mk.inj e).1 (Prod.mk.inj e).2)
        · rcases List.mem_append.1 hs with hs | hs
          · exact h.2 s hs
          · rw [List.mem_singleton.1 hs]; exact h2
  · exact h
theorem ConTo.new {pool dom : List (List UInt8)} {F : List (List NRow)} {r : PR} {n : Nat} {dg : List Nat} {vals : List (List UInt8)} {S out : List NStep} (h : ConTo pool dom F r n dg vals S out) : NewS F S → NewS F out := by
  induction h with
  | stop dg vals S _ => exact addF_new
  | go dg dg' vals S out _ _ ih => exact fun h => ih (addF_new h)
theorem RdTo.new {p : PP} {dom : List (List UInt8)} {F : List (List NRow)} {s n : Nat} {S out : List NStep} (h : RdTo p dom F s n S out) : NewS F S → NewS F out := by
  induction h with
  | fin n S _ => exact id
  | skip n S out r _ _ _ ih => exact ih
  | take n S S1 out r _ _ hc _ ih =>
    intro h
    refine ih ?_
    rcases hc with ⟨_, _, h1⟩ | ⟨_, h1⟩
    · rw [h1]; exact h
    · exact h1.new h
theorem RdTo.pred {p : PP} {dom : List (List UInt8)} {F : List (List NRow)} {s n N : Nat} (hp : ∀ r ∈ p.rules, r.head.pred < N) {S out : List NStep} (h : RdTo p dom F s n S out) (hS : ∀ x ∈ S, x.pred < N) : ∀ x ∈ out, x.pred < N := fun x hx => by
  rcases h.snd x hx with h | ⟨r, hr, _, τ, h1, _⟩
  · exact hS x h
  · rw [h1]; exact hp r hr
/-- The model computes the least model over names. -/
theorem PfTo.lm {p : PP} {dom : List (List UInt8)} {N : Nat} {B : Nat → NRow → Prop} (hp : ∀ r ∈ p.rules, RuFit p.pool r N ∧ resB r = true) (hl : ∀ r ∈ p.rules, r.head.pred < p.preds.length) (hpool : ∀ x ∈ p.pool, x ∈ dom) (hN : NegS p) (hT : TopS p) {s : Nat} {F F1 : List (List NRow)} {T T1 : List NStep} (h : PfTo p dom s F T F1 T1) : F.length = p.preds.length → (∀ q x, memN F q x → ∀ y ∈ x, y ∈ dom) → (∀ q, (F.getD q []).Nodup) → Btw (gN p.pool) p B s (memN F) → s ≤ p.strata.toNat → (∀ q x, memN F1 q x → LM (gN p.pool) p B p.strata.toNat q x) ∧ (overN F1 = false → ∀ q x, LM (gN p.pool) p B p.strata.toNat q x → memN F1 q x) ∧ (∀ q, (F1.getD q []).Nodup) ∧ F1.length = p.preds.length ∧ (∀ q x, memN F1 q x → ∀ y ∈ x, y ∈ dom) := by
  have step : ∀ {s : Nat} {F : List (List NRow)} {S : List NStep}, RdTo p dom F s 0 [] S → F.length = p.preds.length → (∀ q x, memN F q x → ∀ y ∈ x, y ∈ dom) → (∀ q, (F.getD q []).Nodup) → Btw (gN p.pool) p B s (memN F) → (addAll F S).length = p.preds.length ∧ (∀ q x, memN (addAll F S) q x → ∀ y ∈ x, y ∈ dom) ∧ (∀ q, ((addAll F S).getD q []).Nodup) ∧ Btw (gN p.pool) p B s (memN (addAll F S)) := by
    intro s F S hr hlen hD hnd hB
    have hpr := hr.pred (N := F.length) (fun r h => by rw [hlen]; exact hl r h) (fun x hx => by cases hx)
    have hmem := memN_all S F hpr
    have hnew := hr.new ⟨List.nodup_nil, fun s hs => by cases hs⟩
    have hst : ∀ q x, inS S q x → ∃ r ∈ p.rules, (pI p r.head.pred).stratum = (s : Int) ∧ ∃ τ, q = r.head.pred ∧ x = gN p.pool r.head τ ∧ BodG (gN p.pool) (memN F) r τ := by
      rintro q x ⟨y, hy, rfl, rfl⟩
      rcases hr.snd y hy with h | ⟨r, h1, h2, h3⟩
      · cases h
      · exact ⟨r, h1, h2, h3⟩
    refine ⟨by rw [addAll_len]; exact hlen, fun q x hx => ?_, nd_all S F hpr hnd hnew.1 hnew.2, fun q x hx => ?_, fun q x hx => (hmem q x).2 (.inl (hB.cmp q x hx))⟩
    · rcases (hmem q x).1 hx with h | h
      · exact hD q x h
      · obtain ⟨r, h1, h2, τ, rfl, rfl, h5⟩ := hst q x h
        exact head_dom hpool hD (hp r h1).1 (hp r h1).2 h5
    · rcases (hmem q x).1 hx with h | h
      · exact hB.snd q x h
      · obtain ⟨r, h1, h2, τ, rfl, rfl, h5⟩ := hst q x h
        exact hB.der h1 h2 h5
  induction h with
  | fin s F T hs =>
    intro hlen hD hnd hB hle
    have e : s = p.strata.toNat := by omega
    rw [← e]
    exact ⟨fun q x hx => lm_top hT hs (hB.snd q x hx), fun _ => hB.cmp, hnd, hlen, hD⟩
  | next s F F' T T' hs hr _ ih =>
    intro hlen hD hnd hB hle
    refine ih hlen hD hnd (hB.nx (hB.all hN (fun r hr9 hs9 τ hb => ?_))) (by omega)
    obtain ⟨m, hm⟩ := List.mem_iff_getElem?.1 hr9
    rcases hr.cmp hp hD m r (Nat.zero_le _) hm hs9 τ hb with h | ⟨x, hx, _⟩
    · exact h
    · cases hx
  | stop s F T S hs hr hne ho =>
    intro hlen hD hnd hB hle
    obtain ⟨h1, h2, h3, h4⟩ := step hr hlen hD hnd hB
    refine ⟨fun q x hx => (h4.snd q x hx).le (by omega), fun h9 => ?_, h3, h1, h2⟩
    rw [ho] at h9; cases h9
  | again s F F' T T' S hs hr hne ho _ ih =>
    intro hlen hD hnd hB hle
    obtain ⟨h1, h2, h3, h4⟩ := step hr hlen hD hnd hB
    exact ih h1 h2 h3 h4 hle
end Go.Proofs.Qxb6500787aGreat
