import Derived.Test.Qxb6500787aGreatZv

import Derived.StillTailTactics
import Derived.Deep.QuietTactic
import Derived.BigQuiet
import Derived.Deep.RegionHeld
import Derived.Deep.CutRange
import Derived.Laws.ResultCell
import Derived.Laws.Rows
import Derived.DeepKeys
import Derived.DataBytes
import Derived.Laws.StructEq
import Derived.Laws.AppendOwn
import Derived.Laws.MakeOwn
import Derived.Lib.AppendStr
set_option linter.unusedSimpArgs false
set_option linter.unusedVariables false
namespace Go.Proofs.Qxb6500787aGreat
open Go.RowKit Go.Blk
attribute [local go_sem ↓] execOp_load execOp_store execOp_alloc
attribute [local go_sem] Tryz.ld26 Tryz.st26 Tryz.ld27 Tryz.st27 Tryz.ld28 Tryz.st28 Tryz.ld3 Tryz.st3 Tryz.ld29 Tryz.st29 Tryz.ld44 Tryz.st44 Tryz.ld4 Tryz.st4 Tryz.ld50 Tryz.st50 Tryz.ld32 Tryz.st32 Tryz.ld49 Tryz.st49 Tryz.ld68 Tryz.st68 Tryz.ld9 Tryz.st9 Tryz.ld40 Tryz.st40 Tryz.ld138 Tryz.st138 Tryz.ld139 Tryz.st139 Tryz.ld146 Tryz.st146 Tryz.ld183 Tryz.st183 Tryz.ld184 Tryz.st184 Tryz.ld192 Tryz.st192 Tryz.ld195 Tryz.st195 Tryz.ld217 Tryz.st217 Tryz.ld159 Tryz.st159 Tryz.ld142 Tryz.st142 Tryz.ld2 Tryz.st2 Tryz.ld5 Tryz.st5 Tryz.ld12 Tryz.st12 Tryz.ld21 Tryz.st21 Tryz.ld22 Tryz.st22 Tryz.ld24 Tryz.st24 Tryz.ld58 Tryz.st58 Tryz.ld97 Tryz.st97 Tryz.ld101 Tryz.st101 Tryz.ld116 Tryz.st116 Tryz.ld121 Tryz.st121 Tryz.ld135 Tryz.st135 Tryz.ld136 Tryz.st136 Tryz.ld143 Tryz.st143 Tryz.ld148 Tryz.st148 Tryz.ld154 Tryz.st154 Tryz.ld173 Tryz.st173 Tryz.ld187 Tryz.st187 Tryz.ld222 Tryz.st222 Tryz.ld241 Tryz.st241 Tryz.ld248 Tryz.st248 Tryz.ld268 Tryz.st268 Tryz.ld272 Tryz.st272 Tryz.ld153 Tryz.st153 Tryz.ld255 Tryz.st255 Tryz.ld256 Tryz.st256 Tryz.ld129 Tryz.st129 Tryz.ld152 Tryz.st152 Tryz.ld31 Tryz.st31 Tryz.ld46 Tryz.st46 Tryz.ld52 Tryz.st52 Tryz.ld54 Tryz.st54 Tryz.ld60 Tryz.st60 Tryz.ld70 Tryz.st70 Tryz.ld74 Tryz.st74 Tryz.ld93 Tryz.st93 Tryz.ld141 Tryz.st141 Tryz.ld151 Tryz.st151 Tryz.ld170 Tryz.st170 Tryz.ld186 Tryz.st186 Tryz.ld189 Tryz.st189 Tryz.ld194 Tryz.st194 Tryz.ld197 Tryz.st197 Tryz.ld219 Tryz.st219 Tryz.ld224 Tryz.st224 Tryz.ld230 Tryz.st230 Tryz.ld235 Tryz.st235 Tryz.ld243 Tryz.st243 Tryz.ld247 Tryz.st247 Tryz.ld252 Tryz.st252 Tryz.ld258 Tryz.st258 Tryz.al153 Tryz.al255 Tryz.al256 Tryz.al129 Tryz.al152 Tryz.al31 Tryz.al46 Tryz.al52 Tryz.al54 Tryz.al60 Tryz.al70 Tryz.al74 Tryz.al93 Tryz.al141 Tryz.al151 Tryz.al170 Tryz.al186 Tryz.al189 Tryz.al194 Tryz.al197 Tryz.al219 Tryz.al224 Tryz.al230 Tryz.al235 Tryz.al243 Tryz.al247 Tryz.al252 Tryz.al258
attribute [local go_sem] Request.length_enc Request.ok_enc Request.all_get Request.all_set Request.kind_get Request.kind_set Request.blob_get Request.blob_set Request.items_get Request.items_set Request.pred_get Request.pred_set Request.slots_get Request.slots_set Trace.length_enc Trace.ok_enc Trace.all_get Trace.all_set Trace.op_get Trace.op_set Trace.calls_get Trace.calls_set Item.length_enc Item.ok_enc Item.all_get Item.all_set Item.del_get Item.del_set Item.pred_get Item.pred_set Item.args_get Item.args_set Reply.length_enc Reply.ok_enc Reply.all_get Reply.all_set Reply.code_get Reply.code_set Reply.kind_get Reply.kind_set Reply.index_get Reply.index_set Reply.yes_get Reply.yes_set Reply.preds_get Reply.preds_set Reply.rules_get Reply.rules_set Reply.arity_get Reply.arity_set Reply.rows_get Reply.rows_set Reply.fact_get Reply.fact_set Reply.fact_del_get Reply.fact_del_set Reply.fact_pred_get Reply.fact_pred_set Reply.fact_args_get Reply.fact_args_set GEntry.length_enc GEntry.ok_enc GEntry.all_get GEntry.all_set GEntry.seq_get GEntry.seq_set GEntry.kind_get GEntry.kind_set GEntry.code_get GEntry.code_set GOp.length_enc GOp.ok_enc GOp.all_get GOp.all_set GOp.kind_get GOp.kind_set GOp.raw_get GOp.raw_set Reader.length_enc Reader.ok_enc Reader.all_get Reader.all_set Reader.buf_get Reader.buf_set Reader.at__get Reader.at__set Slot.length_enc Slot.ok_enc Slot.all_get Slot.all_set Slot.bound_get Slot.bound_set Slot.name_get Slot.name_set Session.length_enc Session.ok_enc Session.all_get Session.all_set Session.svc_get Session.svc_set Session.buf_get Session.buf_set Session.closed_get Session.closed_set GProgram.length_enc GProgram.ok_enc GProgram.all_get GProgram.all_set GProgram.pool_get GProgram.pool_set GProgram.preds_get GProgram.preds_set GProgram.rules_get GProgram.rules_set GProgram.strata_get GProgram.strata_set PredInfo.length_enc PredInfo.ok_enc PredInfo.all_get PredInfo.all_set PredInfo.arity_get PredInfo.arity_set PredInfo.base_get PredInfo.base_set PredInfo.stratum_get PredInfo.stratum_set Change.length_enc Change.ok_enc Change.all_get Change.all_set Change.del_get Change.del_set Change.pred_get Change.pred_set Change.t_get Change.t_set Store.length_enc Store.ok_enc Store.all_get Store.all_set Store.names_get Store.names_set Store.arity_get Store.arity_set Store.rows_get Store.rows_set Src.length_enc Src.ok_enc Src.all_get Src.all_set Src.b_get Src.b_set Src.at__get Src.at__set Atom.length_enc Atom.ok_enc Atom.all_get Atom.all_set Atom.pred_get Atom.pred_set Atom.args_get Atom.args_set GRule.length_enc GRule.ok_enc GRule.all_get GRule.all_set GRule.head_get GRule.head_set GRule.body_get GRule.body_set GRule.head_pred_get GRule.head_pred_set GRule.head_args_get GRule.head_args_set Cert.length_enc Cert.ok_enc Cert.all_get Cert.all_set Cert.names_get Cert.names_set Cert.nodes_get Cert.nodes_set Fact.length_enc Fact.ok_enc Fact.all_get Fact.all_set Fact.pred_get Fact.pred_set Fact.t_get Fact.t_set Literal.length_enc Literal.ok_enc Literal.all_get Literal.all_set Literal.neg_get Literal.neg_set Literal.atom_get Literal.atom_set Literal.atom_pred_get Literal.atom_pred_set Literal.atom_args_get Literal.atom_args_set Engine.length_enc Engine.ok_enc Engine.all_get Engine.all_set Engine.prog_get Engine.prog_set Engine.st_get Engine.st_set SrcCertm.length_enc SrcCertm.ok_enc SrcCertm.all_get SrcCertm.all_set SrcCertm.b_get SrcCertm.b_set SrcCertm.at__get SrcCertm.at__set GNode.length_enc GNode.ok_enc GNode.all_get GNode.all_set GNode.rule_get GNode.rule_set GNode.pred_get GNode.pred_set GNode.vals_get GNode.vals_set GNode.refs_get GNode.refs_set Term.length_enc Term.ok_enc Term.all_get Term.all_set Term.var_get Term.var_set Term.n_get Term.n_set Env.length_enc Env.ok_enc Env.all_get Env.all_set Env.val_get Env.val_set Env.set_get Env.set_set
attribute [local go_sem] size_put size_ext blk_put free_put blk_alloc free_alloc blk_drew free_drew blk_ext free_ext lookOr_some putOr_some segAt_some cellAt_some storeIn_some put_put put_alloc_new length_arr ok_arr_u8 ok_arr_u32 ok_arr_u64 ok_arr_i64 ok_arr_sl cellsV_agg cellsV_int cellsV_bool cellsV_string cellsV_pointer cellsV_slice cellsV_sl ok_int ok_bool ok_string ok_pointer ok_slice ok_sl toList_arr seg_arr set_arr nth_splice nth_splice0 seg_splice seg_splice0 splice_splice splice_splice0 length_splice_if
attribute [local go_sem ↓] execOp_box
attribute [local go_sem] box_run nth_arr_u8 put_arr_u8 blk_drewN free_drewN put_drewN blk_raw free_raw
/-- A term and an atom under a substitution. -/
def vS (σ : Nat → Int) (t : Term) : Int := if t.var then σ t.n.toNat else t.n
def gS (a : PA) (σ : Nat → Int) : Tup := Vector.ofFn fun i => if i.val < a.args.length then vS σ (tA a i.val) else 0
theorem tg_gS (a : PA) (σ : Nat → Int) {i : Nat} (hi : i < 4) : tg (gS a σ) i = if i < a.args.length then vS σ (tA a i) else 0 := by
  unfold tg gS
  rw [List.getD_eq_getElem?_getD, List.getElem?_eq_getElem (by simp; omega)]; simp
/-- An environment that agrees with a substitution. -/
def Agr (e : Env) (σ : Nat → Int) : Prop := ∀ v, v < 32 → eS e v = true → eV e v = σ v
/-- The variables of an atom are within the limits. -/
def VFit (a : PA) : Prop := ∀ c, c < a.args.length → (tA a c).var = true → 0 ≤ (tA a c).n ∧ (tA a c).n < 32
theorem AtD.vfit {p : PP} {D : Int → Prop} {a : PA} (h : AtD p D a) : VFit a := fun c hc hv => (h.2.2 c hc).1 hv
theorem valT_agr {a : PA} (ha : VFit a) {e : Env} {σ : Nat → Int} (h : Agr e σ) {c i : Nat} (hc : c ≤ a.args.length) (hv : VSet a c e) (hi : i < c) : valT e (tA a i) = vS σ (tA a i) := by
  unfold valT vS
  by_cases e1 : (tA a i).var = true
  · rw [if_pos e1, if_pos e1]
    have h1 := ha i (by omega) e1
    exact h _ (by omega) (hv i hi e1)
  · rw [if_neg e1, if_neg e1]
theorem gA_agr {a : PA} (ha : VFit a) (h4 : a.args.length ≤ 4) {e : Env} {σ : Nat → Int} (h : Agr e σ) (hv : VSet a a.args.length e) : gA a e = gS a σ := by
  apply tg_ext
  intro c hc
  unfold gA
  rw [tg_gT _ _ _ _ hc, tg_gS _ _ hc]
  by_cases e1 : c < a.args.length
  · rw [if_pos e1, if_pos e1]
    exact valT_agr ha h (Nat.le_refl _) hv e1
  · rw [if_neg e1, if_neg e1]
/-- What fits is found. -/
theorem uni_all {a : PA} (ha : VFit a) {row : Tup} {σ : Nat → Int} : ∀ (c : Nat) (e : Env), c ≤ a.args.length → Agr e σ → (∀ i, i < c → tg row i = vS σ (tA a i)) → ∃ e', uniF a row c e = some e' ∧ Agr e' σ ∧ EnX e e' ∧ VSet a c e'
  | 0, e, _, he, _ => ⟨e, rfl, he, fun _ h => h, fun i hi => by omega⟩
  | c + 1, e, hc, he, hr => by
    obtain ⟨e1, h1, h2, h3, h4⟩ := uni_all ha c e (by omega) he (fun i hi => hr i (by omega))
    have hcc : c < a.args.length := by omega
    have hrc := hr c (by omega)
    unfold uniF
    rw [h1]
    show ∃ e', uniS a row c e1 = some e' ∧ _
    unfold uniS
    unfold vS at hrc
    cases hv : (tA a c).var with
    | true =>
      rw [hv, if_pos rfl] at hrc
      rw [if_pos rfl]
      have hn := ha c hcc hv
      have hn' : (tA a c).n.toNat < 32 := by omega
      rw [if_neg (fun h9 => h9.2 (by rw [h2 _ hn' h9.1, hrc]))]
      refine ⟨_, rfl, fun v hv2 hs => ?_, fun v hs => ?_, fun i hi hv2 => ?_⟩
      · rw [eV_eU e1 hn']
        rw [eS_eU e1 hn'] at hs
        by_cases e3 : v = (tA a c).n.toNat
        · rw [if_pos e3, e3, hrc]
        · rw [if_neg e3] at hs ⊢; exact h2 v hv2 hs
      · rw [eS_eU e1 hn']
        by_cases e3 : v = (tA a c).n.toNat
        · rw [if_pos e3]
        · rw [if_neg e3]; exact h3 v hs
      · rw [eS_eU e1 hn']
        by_cases e3 : (tA a i).n.toNat = (tA a c).n.toNat
        · rw [if_pos e3]
        · rw [if_neg e3]
          refine h4 i ?_ hv2
          by_cases e4 : i = c
          · subst e4; exact absurd rfl e3
          · omega
    | false =>
      rw [hv, if_neg (by decide)] at hrc
      rw [if_neg (by decide), if_pos hrc.symm]
      refine ⟨e1, rfl, h2, h3, fun i hi hv2 => ?_⟩
      by_cases e4 : i = c
      · subst e4; rw [hv] at hv2; cases hv2
      · exact h4 i (by omega) hv2
/-- An environment grown. -/
def EnG (e e' : Env) : Prop := ∀ v, v < 32 → eS e v = true → eS e' v = true ∧ eV e' v = eV e v
theorem EnG.refl (e : Env) : EnG e e := fun _ _ h => ⟨h, rfl⟩
theorem EnG.trans {e e' e'' : Env} (h : EnG e e') (h' : EnG e' e'') : EnG e e'' := fun v hv hs => by
  obtain ⟨h1, h2⟩ := h v hv hs
  obtain ⟨h3, h4⟩ := h' v hv h1
  exact ⟨h3, h4.trans h2⟩
/-- What is found fits. -/
theorem uni_fit {a : PA} (ha : VFit a) {row : Tup} : ∀ (c : Nat) (e e' : Env), c ≤ a.args.length → uniF a row c e = some e' → EnG e e' ∧ VSet a c e' ∧ ∀ i, i < c → tg row i = valT e' (tA a i)
  | 0, e, e', _, h => by
    cases h
    exact ⟨EnG.refl _, fun i hi => by omega, fun i hi => by omega⟩
  | c + 1, e, e', hc, h => by
    show _ ∧ _ ∧ _
    unfold uniF at h
    cases h1 : uniF a row c e with
    | none => rw [h1] at h; cases h
    | some e1 =>
      rw [h1] at h
      obtain ⟨i1, i2, i3⟩ := uni_fit ha c e e1 (by omega) h1
      have h2 : uniS a row c e1 = some e' := h
      unfold uniS at h2
      have hcc : c < a.args.length := by omega
      cases hv : (tA a c).var with
      | true =>
        rw [hv, if_pos rfl] at h2
        have hn := ha c hcc hv
        have hn' : (tA a c).n.toNat < 32 := by omega
        by_cases e2 : eS e1 (tA a c).n.toNat = true ∧ ¬ eV e1 (tA a c).n.toNat = tg row c
        · rw [if_pos e2] at h2; cases h2
        · rw [if_neg e2] at h2
          have h3 : eU e1 (tA a c).n.toNat (tg row c) = e' := Option.some.inj h2
          subst h3
          have hold : ∀ v, v < 32 → eS e1 v = true → eV (eU e1 (tA a c).n.toNat (tg row c)) v = eV e1 v := fun v hv2 hs => by
            rw [eV_eU e1 hn']
            by_cases e3 : v = (tA a c).n.toNat
            · rw [if_pos e3, e3]
              exact (Classical.byContradiction fun h9 => e2 ⟨by rw [← e3]; exact hs, fun h8 => h9 h8.symm⟩)
            · rw [if_neg e3]
          have hset : ∀ v, eS e1 v = true → eS (eU e1 (tA a c).n.toNat (tg row c)) v = true := fun v hs => by
            rw [eS_eU e1 hn']
            split
            · rfl
            · exact hs
          refine ⟨i1.trans fun v hv2 hs => ⟨hset v hs, hold v hv2 hs⟩, fun i hi hv2 => ?_, fun i hi => ?_⟩
          · rw [eS_eU e1 hn']
            by_cases e3 : (tA a i).n.toNat = (tA a c).n.toNat
            · rw [if_pos e3]
            · rw [if_neg e3]
              refine i2 i ?_ hv2
              by_cases e4 : i = c
              · subst e4; exact absurd rfl e3
              · omega
          · by_cases e4 : i = c
            · subst e4
              unfold valT
              rw [if_pos hv, eV_eU e1 hn', if_pos rfl]
            · rw [i3 i (by omega)]
              unfold valT
              by_cases e5 : (tA a i).var = true
              · rw [if_pos e5, if_pos e5]
                have h6 := ha i (by omega) e5
                rw [hold _ (by omega) (i2 i (by omega) e5)]
              · rw [if_neg e5, if_neg e5]
      | false =>
        rw [hv, if_neg (by decide)] at h2
        by_cases e2 : (tA a c).n = tg row c
        · rw [if_pos e2] at h2
          have h3 : e1 = e' := Option.some.inj h2
          subst h3
          refine ⟨i1, fun i hi hv2 => ?_, fun i hi => ?_⟩
          · by_cases e4 : i = c
            · subst e4; rw [hv] at hv2; cases hv2
            · exact i2 i (by omega) hv2
          · by_cases e4 : i = c
            · subst e4
              unfold valT
              rw [if_neg (by rw [hv]; decide), e2]
            · exact i3 i (by omega)
        · rw [if_neg e2] at h2; cases h2
theorem foldl_sub {S : List (List Tup)} {Z0 : List PL} {hd : PA} {z : PL} {Z : List PL} {e : Env} (ih : ∀ e out t, t ∈ out → t ∈ goM S Z0 hd Z e out) : ∀ (rows : List Tup) (out : List Tup) (t : Tup), t ∈ out → t ∈ rows.foldl (stM S Z0 hd z Z e) out
  | [], out, t, h => h
  | row :: rows, out, t, h => by
    rw [List.foldl_cons]
    refine foldl_sub ih rows _ t ?_
    unfold stM
    split
    · exact ih _ _ t h
    · exact h
theorem goM_sub {S : List (List Tup)} {Z0 : List PL} {hd : PA} : ∀ (Z : List PL) (e : Env) (out : List Tup) (t : Tup), t ∈ out → t ∈ goM S Z0 hd Z e out
  | [], e, out, t, h => by
    unfold goM
    split
    · exact mem_addT.2 (.inl h)
    · exact h
  | z :: Z, e, out, t, h => by
    rw [goM_cons]
    split
    · exact goM_sub Z e out t h
    · exact foldl_sub (goM_sub Z) _ _ t h
/-- Matching finds every head whose body holds. -/
theorem goM_all {S : List (List Tup)} {Z0 : List PL} {hd : PA} {σ : Nat → Int} {g : Tup} : ∀ (Z : List PL) (e : Env) (out : List Tup), (∀ z ∈ Z, z.neg = false → VFit z.atom ∧ gS z.atom σ ∈ rowsAt S z.atom.pred) → (∀ z ∈ Z, z.atom.args.length ≤ 4) → Agr e σ → (∀ e', Agr e' σ → EnX e e' → (∀ z ∈ Z, z.neg = false → VSet z.atom z.atom.args.length e') → negs S Z0 e' = true ∧ gA hd e' = g) → g ∈ goM S Z0 hd Z e out
  | [], e, out, _, _, he, hf => by
    obtain ⟨h1, h2⟩ := hf e he (fun _ h => h) (fun z hz => by cases hz)
    unfold goM
    rw [if_pos h1, h2]
    exact mem_addT.2 (.inr rfl)
  | z :: Z, e, out, hZ, h4, he, hf => by
    rw [goM_cons]
    by_cases hn : z.neg = true
    · rw [if_pos hn]
      exact goM_all Z e out (fun y hy => hZ y (List.mem_cons_of_mem _ hy)) (fun y hy => h4 y (List.mem_cons_of_mem _ hy)) he (fun e' h1 h2 h3 => hf e' h1 h2 (fun y hy hyn => by
        rcases List.mem_cons.1 hy with rfl | hy
        · rw [hn] at hyn; cases hyn
        · exact h3 y hy hyn))
    · rw [if_neg hn]
      have hnf : z.neg = false := by simpa using hn
      obtain ⟨hvf, hmem⟩ := hZ z List.mem_cons_self hnf
      have hz4 := h4 z List.mem_cons_self
      obtain ⟨e1, k1, k2, k3, k4⟩ := uni_all hvf (row := gS z.atom σ) (σ := σ) z.atom.args.length e (Nat.le_refl _) he (fun i hi => by rw [tg_gS _ _ (by omega), if_pos hi])
      have key : ∀ out, g ∈ stM S Z0 hd z Z e out (gS z.atom σ) := fun out => by
        unfold stM
        rw [k1]
        refine goM_all Z e1 out (fun y hy => hZ y (List.mem_cons_of_mem _ hy)) (fun y hy => h4 y (List.mem_cons_of_mem _ hy)) k2 (fun e' h1 h2 h3 => hf e' h1 (fun v hv => h2 v (k3 v hv)) (fun y hy hyn => ?_))
        rcases List.mem_cons.1 hy with rfl | hy
        · exact fun i hi hv => h2 _ (k4 i hi hv)
        · exact h3 y hy hyn
      obtain ⟨l1, l2, el⟩ := List.append_of_mem hmem
      rw [el, List.foldl_append, List.foldl_cons]
      exact foldl_sub (goM_sub Z) _ _ g (key _)
end Go.Proofs.Qxb6500787aGreat
