import Derived.Test.Qxb6500787aGreatGm

import Derived.StillTailTactics
import Derived.Deep.QuietTactic
import Derived.BigQuiet
import Derived.Deep.RegionHeld
import Derived.Deep.CutRange
import Derived.Laws.ResultCell
import Derived.Laws.Rows
import Derived.DeepKeys
import Derived.DataBytes
import Derived.Laws.StructEq
import Derived.Laws.AppendOwn
import Derived.Laws.MakeOwn
import Derived.Lib.AppendStr
set_option linter.unusedSimpArgs false
set_option linter.unusedVariables false
namespace Go.Proofs.Qxb6500787aGreat
open Go.RowKit Go.Blk
attribute [local go_sem ↓] execOp_load execOp_store execOp_alloc
attribute [local go_sem] Tryz.ld26 Tryz.st26 Tryz.ld27 Tryz.st27 Tryz.ld28 Tryz.st28 Tryz.ld3 Tryz.st3 Tryz.ld29 Tryz.st29 Tryz.ld44 Tryz.st44 Tryz.ld4 Tryz.st4 Tryz.ld50 Tryz.st50 Tryz.ld32 Tryz.st32 Tryz.ld49 Tryz.st49 Tryz.ld68 Tryz.st68 Tryz.ld9 Tryz.st9 Tryz.ld40 Tryz.st40 Tryz.ld138 Tryz.st138 Tryz.ld139 Tryz.st139 Tryz.ld146 Tryz.st146 Tryz.ld183 Tryz.st183 Tryz.ld184 Tryz.st184 Tryz.ld192 Tryz.st192 Tryz.ld195 Tryz.st195 Tryz.ld217 Tryz.st217 Tryz.ld159 Tryz.st159 Tryz.ld142 Tryz.st142 Tryz.ld2 Tryz.st2 Tryz.ld5 Tryz.st5 Tryz.ld12 Tryz.st12 Tryz.ld21 Tryz.st21 Tryz.ld22 Tryz.st22 Tryz.ld24 Tryz.st24 Tryz.ld58 Tryz.st58 Tryz.ld97 Tryz.st97 Tryz.ld101 Tryz.st101 Tryz.ld116 Tryz.st116 Tryz.ld121 Tryz.st121 Tryz.ld135 Tryz.st135 Tryz.ld136 Tryz.st136 Tryz.ld143 Tryz.st143 Tryz.ld148 Tryz.st148 Tryz.ld154 Tryz.st154 Tryz.ld173 Tryz.st173 Tryz.ld187 Tryz.st187 Tryz.ld222 Tryz.st222 Tryz.ld241 Tryz.st241 Tryz.ld248 Tryz.st248 Tryz.ld268 Tryz.st268 Tryz.ld272 Tryz.st272 Tryz.ld153 Tryz.st153 Tryz.ld255 Tryz.st255 Tryz.ld256 Tryz.st256 Tryz.ld129 Tryz.st129 Tryz.ld152 Tryz.st152 Tryz.ld31 Tryz.st31 Tryz.ld46 Tryz.st46 Tryz.ld52 Tryz.st52 Tryz.ld54 Tryz.st54 Tryz.ld60 Tryz.st60 Tryz.ld70 Tryz.st70 Tryz.ld74 Tryz.st74 Tryz.ld93 Tryz.st93 Tryz.ld141 Tryz.st141 Tryz.ld151 Tryz.st151 Tryz.ld170 Tryz.st170 Tryz.ld186 Tryz.st186 Tryz.ld189 Tryz.st189 Tryz.ld194 Tryz.st194 Tryz.ld197 Tryz.st197 Tryz.ld219 Tryz.st219 Tryz.ld224 Tryz.st224 Tryz.ld230 Tryz.st230 Tryz.ld235 Tryz.st235 Tryz.ld243 Tryz.st243 Tryz.ld247 Tryz.st247 Tryz.ld252 Tryz.st252 Tryz.ld258 Tryz.st258 Tryz.al153 Tryz.al255 Tryz.al256 Tryz.al129 Tryz.al152 Tryz.al31 Tryz.al46 Tryz.al52 Tryz.al54 Tryz.al60 Tryz.al70 Tryz.al74 Tryz.al93 Tryz.al141 Tryz.al151 Tryz.al170 Tryz.al186 Tryz.al189 Tryz.al194 Tryz.al197 Tryz.al219 Tryz.al224 Tryz.al230 Tryz.al235 Tryz.al243 Tryz.al247 Tryz.al252 Tryz.al258
attribute [local go_sem] Request.length_enc Request.ok_enc Request.all_get Request.all_set Request.kind_get Request.kind_set Request.blob_get Request.blob_set Request.items_get Request.items_set Request.pred_get Request.pred_set Request.slots_get Request.slots_set Trace.length_enc Trace.ok_enc Trace.all_get Trace.all_set Trace.op_get Trace.op_set Trace.calls_get Trace.calls_set Item.length_enc Item.ok_enc Item.all_get Item.all_set Item.del_get Item.del_set Item.pred_get Item.pred_set Item.args_get Item.args_set Reply.length_enc Reply.ok_enc Reply.all_get Reply.all_set Reply.code_get Reply.code_set Reply.kind_get Reply.kind_set Reply.index_get Reply.index_set Reply.yes_get Reply.yes_set Reply.preds_get Reply.preds_set Reply.rules_get Reply.rules_set Reply.arity_get Reply.arity_set Reply.rows_get Reply.rows_set Reply.fact_get Reply.fact_set Reply.fact_del_get Reply.fact_del_set Reply.fact_pred_get Reply.fact_pred_set Reply.fact_args_get Reply.fact_args_set GEntry.length_enc GEntry.ok_enc GEntry.all_get GEntry.all_set GEntry.seq_get GEntry.seq_set GEntry.kind_get GEntry.kind_set GEntry.code_get GEntry.code_set GOp.length_enc GOp.ok_enc GOp.all_get GOp.all_set GOp.kind_get GOp.kind_set GOp.raw_get GOp.raw_set Reader.length_enc Reader.ok_enc Reader.all_get Reader.all_set Reader.buf_get Reader.buf_set Reader.at__get Reader.at__set Slot.length_enc Slot.ok_enc Slot.all_get Slot.all_set Slot.bound_get Slot.bound_set Slot.name_get Slot.name_set Session.length_enc Session.ok_enc Session.all_get Session.all_set Session.svc_get Session.svc_set Session.buf_get Session.buf_set Session.closed_get Session.closed_set GProgram.length_enc GProgram.ok_enc GProgram.all_get GProgram.all_set GProgram.pool_get GProgram.pool_set GProgram.preds_get GProgram.preds_set GProgram.rules_get GProgram.rules_set GProgram.strata_get GProgram.strata_set PredInfo.length_enc PredInfo.ok_enc PredInfo.all_get PredInfo.all_set PredInfo.arity_get PredInfo.arity_set PredInfo.base_get PredInfo.base_set PredInfo.stratum_get PredInfo.stratum_set Change.length_enc Change.ok_enc Change.all_get Change.all_set Change.del_get Change.del_set Change.pred_get Change.pred_set Change.t_get Change.t_set Store.length_enc Store.ok_enc Store.all_get Store.all_set Store.names_get Store.names_set Store.arity_get Store.arity_set Store.rows_get Store.rows_set Src.length_enc Src.ok_enc Src.all_get Src.all_set Src.b_get Src.b_set Src.at__get Src.at__set Atom.length_enc Atom.ok_enc Atom.all_get Atom.all_set Atom.pred_get Atom.pred_set Atom.args_get Atom.args_set GRule.length_enc GRule.ok_enc GRule.all_get GRule.all_set GRule.head_get GRule.head_set GRule.body_get GRule.body_set GRule.head_pred_get GRule.head_pred_set GRule.head_args_get GRule.head_args_set Cert.length_enc Cert.ok_enc Cert.all_get Cert.all_set Cert.names_get Cert.names_set Cert.nodes_get Cert.nodes_set Fact.length_enc Fact.ok_enc Fact.all_get Fact.all_set Fact.pred_get Fact.pred_set Fact.t_get Fact.t_set Literal.length_enc Literal.ok_enc Literal.all_get Literal.all_set Literal.neg_get Literal.neg_set Literal.atom_get Literal.atom_set Literal.atom_pred_get Literal.atom_pred_set Literal.atom_args_get Literal.atom_args_set Engine.length_enc Engine.ok_enc Engine.all_get Engine.all_set Engine.prog_get Engine.prog_set Engine.st_get Engine.st_set SrcCertm.length_enc SrcCertm.ok_enc SrcCertm.all_get SrcCertm.all_set SrcCertm.b_get SrcCertm.b_set SrcCertm.at__get SrcCertm.at__set GNode.length_enc GNode.ok_enc GNode.all_get GNode.all_set GNode.rule_get GNode.rule_set GNode.pred_get GNode.pred_set GNode.vals_get GNode.vals_set GNode.refs_get GNode.refs_set Term.length_enc Term.ok_enc Term.all_get Term.all_set Term.var_get Term.var_set Term.n_get Term.n_set Env.length_enc Env.ok_enc Env.all_get Env.all_set Env.val_get Env.val_set Env.set_get Env.set_set
attribute [local go_sem] size_put size_ext blk_put free_put blk_alloc free_alloc blk_drew free_drew blk_ext free_ext lookOr_some putOr_some segAt_some cellAt_some storeIn_some put_put put_alloc_new length_arr ok_arr_u8 ok_arr_u32 ok_arr_u64 ok_arr_i64 ok_arr_sl cellsV_agg cellsV_int cellsV_bool cellsV_string cellsV_pointer cellsV_slice cellsV_sl ok_int ok_bool ok_string ok_pointer ok_slice ok_sl toList_arr seg_arr set_arr nth_splice nth_splice0 seg_splice seg_splice0 splice_splice splice_splice0 length_splice_if
attribute [local go_sem ↓] execOp_box
attribute [local go_sem] box_run nth_arr_u8 put_arr_u8 blk_drewN free_drewN put_drewN blk_raw free_raw
theorem setI_nm {vars : List Int} {dom : List (List UInt8)} {dg : List Nat} {vals : List (List UInt8)} (h : ∀ y ∈ vals, y ∈ dom ∨ y = []) : ∀ i, ∀ y ∈ setI vars dom dg vals i, y ∈ dom ∨ y = []
  | 0 => h
  | i + 1 => fun y hy => by
    rw [setI_succ] at hy
    rcases List.mem_or_eq_of_mem_set hy with h1 | h1
    · exact setI_nm h i y h1
    · rw [h1, List.getD_eq_getElem?_getD]
      cases hx : dom[dg.getD i 0]? with
      | none => exact .inr rfl
      | some x => exact .inl (List.mem_of_getElem? hx)
theorem ConTo.nm {pool dom : List (List UInt8)} {F : List (List NRow)} {r : PR} {n : Nat} {dg : List Nat} {vals : List (List UInt8)} {S out : List NStep} (h : ConTo pool dom F r n dg vals S out) : (∀ y ∈ vals, y ∈ dom ∨ y = []) → ∀ s ∈ out, s ∈ S ∨ ∀ y ∈ s.vals, y ∈ dom ∨ y = [] := by
  induction h with
  | stop dg vals S h1 =>
    intro hl s hs
    rcases addF_v hs with h | ⟨rfl, h⟩
    · exact .inl h
    · exact .inr (setI_nm hl _)
  | go dg dg' vals S out h1 h2 ih =>
    intro hl s hs
    rcases ih (setI_nm hl _) s hs with h | h
    · rcases addF_v h with h | ⟨rfl, hb⟩
      · exact .inl h
      · exact .inr (setI_nm hl _)
    · exact .inr h
theorem RdTo.nm {p : PP} {dom : List (List UInt8)} {F : List (List NRow)} {s n : Nat} {S out : List NStep} (h : RdTo p dom F s n S out) : ∀ x ∈ out, x ∈ S ∨ ∀ y ∈ x.vals, y ∈ dom ∨ y = [] := by
  induction h with
  | fin n S h1 => exact fun x hx => .inl hx
  | skip n S out r h1 h2 h3 ih => exact ih
  | take n S S1 out r h1 h2 h3 h4 ih =>
    intro x hx
    rcases ih x hx with h | h
    · rcases h3 with ⟨-, -, rfl⟩ | ⟨-, h3⟩
      · exact .inl h
      · exact h3.nm (fun y hy => .inr (List.eq_of_mem_replicate hy)) x h
    · exact .inr h
theorem PfTo.nm {p : PP} {dom : List (List UInt8)} {s : Nat} {F F1 : List (List NRow)} {T T1 : List NStep} (h : PfTo p dom s F T F1 T1) : ∀ x ∈ T1, x ∈ T ∨ ∀ y ∈ x.vals, y ∈ dom ∨ y = [] := by
  have one : ∀ {s : Nat} {F : List (List NRow)} {T S : List NStep}, RdTo p dom F s 0 [] S → ∀ x ∈ T ++ S, x ∈ T ∨ ∀ y ∈ x.vals, y ∈ dom ∨ y = [] := fun hR x hx => by
    rcases List.mem_append.1 hx with h | h
    · exact .inl h
    · rcases hR.nm x h with h | h
      · cases h
      · exact .inr h
  induction h with
  | fin s F T h1 => exact fun x hx => .inl hx
  | next s F F' T T' h1 h2 h3 ih => exact ih
  | stop s F T S h1 h2 h3 h4 => exact one h2
  | again s F F' T T' S h1 h2 h3 h4 h5 ih =>
    intro x hx
    rcases ih x hx with h | h
    · exact one h2 x h
    · exact .inr h
theorem PfTo.tot {p : PP} {dom : List (List UInt8)} {s : Nat} {F F1 : List (List NRow)} {T T1 : List NStep} (h : PfTo p dom s F T F1 T1) : (∀ r ∈ p.rules, r.head.pred < F.length) → totN F1 + T.length = totN F + T1.length := by
  have one : ∀ {s : Nat} {F : List (List NRow)} {S : List NStep}, RdTo p dom F s 0 [] S → (∀ r ∈ p.rules, r.head.pred < F.length) → totN (addAll F S) = totN F + S.length := fun hR hl => by
    refine tot_all _ _ (fun u hu => ?_)
    rcases hR.v u hu with h | ⟨r, h, -⟩
    · cases h
    · rw [h.pd]; exact hl r (List.mem_of_getElem? h.ru)
  induction h with
  | fin s F T h1 => exact fun _ => rfl
  | next s F F' T T' h1 h2 h3 ih => exact ih
  | stop s F T S h1 h2 h3 h4 => exact fun hl => by rw [one h2 hl, List.length_append]; omega
  | again s F F' T T' S h1 h2 h3 h4 h5 ih =>
    intro hl
    have h9 := ih (by rw [addAll_len]; exact hl)
    rw [one h2 hl, List.length_append] at h9
    omega
/-- The loader's limit on a rule's body. -/
def MsX (m : MS) : Prop := m.ld = true → LeaS m.p ∧ ∀ r ∈ m.p.rules, r.body.length ≤ 8
theorem LdM.msx {m m' : MS} {xs out : List UInt8} (h : LdM m xs out m') (hm : MsX m) : MsX m' := by
  have hL : MsL m' := h.lea (fun e => (hm e).1)
  rcases h with ⟨-, -, rfl⟩ | ⟨h0, c, -, ⟨-, -, rfl⟩ | ⟨-, p', F1, T1, hv, -, ⟨-, -, rfl⟩ | ⟨-, -, rfl⟩⟩⟩
  · exact hm
  · exact hm
  · exact hm
  · refine fun e => ⟨hL e, ?_⟩
    have hd := decP_ok h0
    obtain ⟨-, -, hr, hs, hv2⟩ := verR_ok hd hv
    have h2 : limB (decP xs).2 = true := by
      cases hb : limB (decP xs).2 with
      | true => rfl
      | false =>
        unfold verC at hv2
        rw [if_pos hb] at hv2; cases hv2
    show ∀ r ∈ p'.rules, r.body.length ≤ 8
    rw [hr]
    exact (limB_lens h2).2.2.2.2
theorem MvR.msx {m m' : MS} {raw out : List UInt8} (h : MvR m raw out m') (hm : MsX m) : MsX m' := by
  rcases h with ⟨-, -, rfl⟩ | ⟨-, ⟨-, h⟩ | ⟨-, -, -, rfl⟩ | ⟨-, hl, ⟨-, h⟩ | ⟨-, -, rfl⟩ | ⟨-, -, rfl⟩ | ⟨-, -, rfl⟩⟩⟩
  · exact hm
  · exact h.msx hm
  · exact hm
  · rcases h with ⟨c, i, -, -, rfl⟩ | ⟨-, ⟨-, -, rfl⟩ | ⟨-, ⟨-, -, rfl⟩ | ⟨-, F1, T1, -, ⟨-, -, rfl⟩ | ⟨-, -, rfl⟩⟩⟩⟩
    · exact hm
    · exact hm
    · exact hm
    · exact hm
    · exact fun _ => hm hl
  · exact hm
  · exact hm
  · exact hm
theorem NdFor.imp {p : PP} {Lf Lf' : NStep → Prop} (hl : ∀ s, Lf s → Lf' s) {Rl : List NStep → NStep → Prop} {K : List (List UInt8)} {bef : List NStep} {d : CNode} {u : NStep} (h : NdFor p Lf Rl K bef d u) : NdFor p Lf' Rl K bef d u := by
  obtain ⟨vs, ⟨h1, h2, h3⟩ | ⟨h1, h2⟩⟩ := h
  · exact ⟨vs, .inl ⟨h1, h2, hl _ h3⟩⟩
  · exact ⟨vs, .inr ⟨h1, h2⟩⟩
theorem CxI.imp {p : PP} {Lf Lf' : NStep → Prop} (hl : ∀ s, Lf s → Lf' s) {Rl : List NStep → NStep → Prop} {Nm : List UInt8 → Prop} {X : CC} {D : List NStep} (h : CxI p Lf Rl Nm X D) : CxI p Lf' Rl Nm X D := ⟨h.len, h.nn, h.nm, fun i d u h1 h2 => (h.nd i d u h1 h2).imp hl⟩
theorem fm_le {α : Type} (f : α → List UInt8) {B : Nat} : ∀ (L : List α), (∀ x ∈ L, (f x).length ≤ B) → (L.flatMap f).length ≤ L.length * B
  | [], _ => by simp
  | x :: L, h => by
    have h1 := fm_le f L (fun y hy => h y (List.mem_cons_of_mem _ hy))
    have h2 := h x List.mem_cons_self
    rw [List.flatMap_cons, List.length_append, List.length_cons, Nat.add_mul, Nat.one_mul]
    omega
theorem encRf_len (v : List Int) : (encRf v).length = 1 + 2 * v.length := by
  unfold encRf
  rw [List.length_cons]
  have h : ∀ v : List Int, (v.flatMap fun x => [UInt8.ofNat (x.toNat / 256), UInt8.ofNat (x.toNat % 256)]).length = 2 * v.length := by
    intro v
    induction v with
    | nil => rfl
    | cons x v ih => simp only [List.flatMap_cons, List.length_append, List.length_cons, List.length_nil, ih]; omega
  rw [h]; omega
theorem encNd_le {d : CNode} (h1 : d.vals.length ≤ 32) (h2 : d.refs.length ≤ 8) : (encNd d).length ≤ 90 := by
  unfold encNd
  split
  · rw [List.length_cons, List.length_cons, encRf_len]; omega
  · rw [List.length_cons, List.length_cons, List.length_append, encRf_len, encRf_len]; omega
/-- What the certificate of a fact of the model needs and is. -/
structure BcL (t : InsS) (p : PP) (F1 : List (List NRow)) (T : List NStep) (q : Nat) (r : NRow) : Prop where
  ov : overN F1 = false
  ql : q < p.preds.length
  fl : F1.length = p.preds.length
  n64 : p.preds.length ≤ 64
  ll : ∀ L ∈ F1, L.length ≤ 512
  r4 : ∀ L ∈ F1, ∀ x ∈ L, x.length ≤ 4
  tl : T.length ≤ 100000
  t4 : ∀ u ∈ T, u.row.length ≤ 4
  tgt : (pI p q).base = false → ∃ j : Nat, plcF T q r = (j : Int) ∧ j < T.length
  stp : ∀ u ∈ T, ∃ rr, p.rules[u.rule]? = some rr ∧ RuFit p.pool rr p.preds.length ∧ u.vals.length = 32 ∧ ∀ z ∈ rr.body, z.neg = false → (pI p z.atom.pred).base = false → ∃ j : Nat, plcF T z.atom.pred (instF p.pool u.vals z.atom) = (j : Int) ∧ j < T.length
  kn : (bcC p T q r).1.length ≤ 300
  k64 : ∀ y ∈ (bcC p T q r).1, y.length ≤ 64
  cn : (bcC p T q r).2.length ≤ 256 → ∀ d ∈ (bcC p T q r).2, CNok d
  chk : (bcC p T q r).2.length ≤ 256 → chkF t.p t.N t.R (encCt (bcC p T q r)) = (0, ⟨(q : Int), mkT (resV t.N r) r.length⟩)
  enl : (bcC p T q r).2.length ≤ 256 → (encCt (bcC p T q r)).length ≤ 65532
  mem : memI t.R q (mkT (resV t.N r) r.length)
  nam : nmsT t.N (mkT (resV t.N r) r.length) (arP t.p q) = r
theorem plc_lt {T : List NStep} {q : Nat} {x : NRow} {j : Nat} {v : NStep} (hj : T[j]? = some v) (h1 : v.pred = q) (h2 : v.row = x) : ∃ k : Nat, plcF T q x = (k : Int) ∧ k ≤ j := by
  rcases plc_cases T q x with ⟨-, h9⟩ | ⟨i, s, e1, e2, e3, e4, e5⟩
  · exact absurd ⟨h1, h2⟩ (h9 j v hj)
  · refine ⟨i, e1, ?_⟩
    by_cases hl : i ≤ j
    · exact hl
    · exact absurd ⟨h1, h2⟩ (e5 j v (by omega) hj)
theorem bcl_of {t : InsS} {m : MS} (h : AgT t m) (ht : InG t) (hX : LeaS m.p ∧ ∀ r ∈ m.p.rules, r.body.length ≤ 8) {F1 : List (List NRow)} {T1 : List NStep} (hQ : PfTo m.p (constF m.p.pool m.F) 0 m.F [] F1 T1) {q : Nat} {r : NRow} (hr : r ∈ F1.getD q []) : BcL t m.p F1 T1 q r := by
  have hM := h.msi ht
  obtain ⟨hT, hnd, hNB⟩ := h.all ht hQ
  obtain ⟨m1, m2, m3, m4⟩ := hM.perf hQ
  have hpok := hM.pg.g.pok
  have hheads : ∀ r ∈ m.p.rules, r.head.pred < m.F.length := fun r hr => by rw [hM.len]; exact (hpok.rl r hr).2
  obtain ⟨T', eT, -, hmem, hst⟩ := hQ.stp hX.1 hheads
  rw [List.nil_append] at eT
  subst eT
  have htp : t.p = m.p := h.p
  have hdom := hM.dom hQ
  have hnob := hM.pg.g.nob
  have h4 : ∀ q, arP m.p q ≤ 4 := by rw [← htp]; exact h.a.ar
  have hov := hM.nov _ _ hQ
  have htot := hQ.tot hheads
  rw [List.length_nil, Nat.add_zero] at htot
  have hll : ∀ L ∈ F1, L.length ≤ 512 := overN_le hov
  have hle := tot_le F1 512 hll
  have htl : T1.length ≤ 100000 := by
    have h1 : F1.length * 512 ≤ 64 * 512 := Nat.mul_le_mul_right _ (by rw [m2]; exact hpok.nD)
    omega
  -- a step's predicate is derived, a base fact's is base
  have hstb : ∀ (j : Nat) (v : NStep), T1[j]? = some v → (pI m.p v.pred).base = false := fun j v hj => by
    obtain ⟨rr, e1, e2, -⟩ := hst j v hj
    rw [e2]; exact hnob rr (List.mem_of_getElem? e1)
  have hfb : ∀ q x, memN m.F q x → (pI m.p q).base = true := fun q x hx => (hM.row q x hx).2.1
  have hql : q < m.p.preds.length := by
    by_cases hq : q < F1.length
    · rw [← m2]; exact hq
    · rw [List.getD_eq_getElem?_getD, List.getElem?_eq_none (by omega)] at hr; cases hr
  -- found in the service
  have hin : ∀ z x, memN F1 z x → mkT (resV t.N x) x.length ∈ rowsAt t.R z := fun z x hx => by
    refine (nb_find hNB (by rw [htp]; exact h4) (by rw [htp]; exact (m3 z x hx).1)).2 ?_
    obtain ⟨y, hy, e⟩ := (hT z x).1 hx
    exact ⟨y, hy, e⟩
  have har : ∀ z x, z < m.p.preds.length → memN F1 z x → (x.length : Int) = (pI m.p z).arity := fun z x hz hx => by
    have h1 := (m3 z x hx).1
    have h2 := hpok.ar _ (List.mem_of_getElem? (pI_at hz))
    unfold arP at h1
    omega
  let Nm : List UInt8 → Prop := fun y => y ∈ constF m.p.pool m.F ∨ y = []
  let Lf : NStep → Prop := fun s => LfO t.p t.N t.R s ∧ ∀ y ∈ s.row, Nm y
  have hlf : ∀ z x, z < m.p.preds.length → (pI m.p z).base = true → memN F1 z x → Lf ⟨z, x, 0, []⟩ := fun z x hz hb hx => by
    refine ⟨⟨?_, ?_, ?_, hin z x hx⟩, fun y hy => .inl (hdom z x hx y hy)⟩
    · show z < t.p.preds.length
      rw [htp]; exact hz
    · show (pI t.p z).base = true
      rw [htp]; exact hb
    · show (x.length : Int) = (pI t.p z).arity
      rw [htp]; exact har z x hz hx
  have hbody : ∀ (u : NStep) (rr : PR), m.p.rules[u.rule]? = some rr → bodyOf m.p u = rr.body := fun u rr e => by
    unfold bodyOf; rw [List.getD_eq_getElem?_getD, e]; rfl
  have hfit : ∀ rr ∈ m.p.rules, RuFit m.p.pool rr m.p.preds.length := fun rr hrr => hM.pg.g.fit hrr
  have hrest : TRest m.p Lf T1 := fun i u hu z hz hzn => by
    obtain ⟨rr, e1, e2, e3, e4, e5, e6⟩ := hst i u hu
    rw [hbody u rr e1] at hz
    constructor
    · intro hb
      rcases e5 z hz hzn with h1 | ⟨j, v, hj, g1, g2, g3⟩
      · rw [hfb _ _ h1] at hb; cases hb
      · obtain ⟨k, k1, k2⟩ := plc_lt g1 g2 g3
        exact ⟨k, k1, by omega⟩
    · intro hb
      rcases e5 z hz hzn with h1 | ⟨j, v, hj, g1, g2, g3⟩
      · exact hlf _ _ ((hfit rr (List.mem_of_getElem? e1)).bp z hz) hb ((hmem _ _).2 (.inl h1))
      · have h9 := hstb j v g1
        rw [g2, hb] at h9; cases h9
  have hnm : ∀ u ∈ T1, ∀ y ∈ u.vals, Nm y := fun u hu => by
    rcases hQ.nm u hu with h1 | h1
    · cases h1
    · exact h1
  have hRl : ∀ (i : Nat) (u : NStep) (D : List NStep), T1[i]? = some u → (∀ z ∈ bodyOf m.p u, z.neg = false → ∃ (j : Nat) (v : NStep), D[j]? = some v ∧ v.pred = z.atom.pred ∧ v.row = instF m.p.pool u.vals z.atom) → RlO m.p t.N t.R D u := fun i u D hu hz => by
    obtain ⟨rr, e1, e2, e3, e4, e5, e6⟩ := hst i u hu
    rw [hbody u rr e1] at hz
    have hf := hfit rr (List.mem_of_getElem? e1)
    refine ⟨rr, e1, e2, e3, e4, hf, hz, fun z hz hzn hc => e6 z hz hzn ?_⟩
    have hl : (instF m.p.pool u.vals z.atom).length = arP m.p z.atom.pred := by
      unfold instF
      rw [List.length_map]
      exact ((hM.pg.g.rul rr (List.mem_of_getElem? e1)).2.1 z hz).1
    rw [← htp] at hl
    obtain ⟨y, hy, e⟩ := (nb_find hNB (by rw [htp]; exact h4) hl).1 (by rw [← htp] at hc; exact hc)
    rw [← htp]
    exact (hT _ _).2 ⟨y, hy, e⟩
  have hlfr : ∀ s, Lf s → ∀ y ∈ s.row, Nm y := fun s hs => hs.2
  have hcase := (hmem q r).1 hr
  have hbq : (pI m.p q).base = true → Lf ⟨q, r, 0, []⟩ := fun hb => hlf q r hql hb hr
  have hdq : (pI m.p q).base = false → ∃ k : Nat, plcF T1 q r = (k : Int) ∧ k < T1.length := fun hb => by
    rcases hcase with h1 | ⟨s, hs, g1, g2⟩
    · rw [hfb _ _ h1] at hb; cases hb
    · obtain ⟨j, hj⟩ := List.mem_iff_getElem?.1 hs
      obtain ⟨k, k1, k2⟩ := plc_lt hj g1 g2
      exact ⟨k, k1, by have := (List.getElem?_eq_some_iff.1 hj).1; omega⟩
  obtain ⟨D, E, u, hC, hD, hu1, hu2⟩ := bc_cx hrest hnm hlfr hRl hbq hdq
  have hC' : CxI m.p (LfO m.p t.N t.R) (RlO m.p t.N t.R) Nm (bcC m.p T1 q r) D := hC.imp (fun s hs => by rw [← htp]; exact hs.1)
  have hkn : (bcC m.p T1 q r).1.length ≤ 300 := by
    have h1 := nodup_sub (bcC m.p T1 q r).1 ([] :: constF m.p.pool m.F) hC'.nn (fun y hy => by
      rcases hC'.nm y hy with h9 | h9
      · exact List.mem_cons_of_mem _ h9
      · rw [h9]; exact List.mem_cons_self)
    have h2 := hM.con
    rw [List.length_cons] at h1
    omega
  have hk64 : ∀ y ∈ (bcC m.p T1 q r).1, y.length ≤ 64 := fun y hy => by
    rcases hC'.nm y hy with h9 | h9
    · rcases constF_mem.1 h9 with h8 | ⟨Ls, h1, x, h2, h3⟩
      · exact hM.pg.g.pool.2 y h8
      · obtain ⟨z, hz⟩ := List.mem_iff_getElem?.1 h1
        exact (hM.row z x (by unfold memN; rw [List.getD_eq_getElem?_getD, hz]; exact h2)).2.2 y h3
    · rw [h9]; exact Nat.zero_le _
  have hcn : (bcC m.p T1 q r).2.length ≤ 256 → ∀ d ∈ (bcC m.p T1 q r).2, CNok d ∧ d.vals.length ≤ 32 ∧ d.refs.length ≤ 8 := fun hl => bc_cn hC' hpok hkn hl (fun s hs => by
    have h1 := hs.2.2.1
    have h2 := h4 s.pred
    unfold arP at h2
    omega) hX.2
  have hnod := hNB.nd
  have hpre := hNB.pre
  rw [htp] at hpre
  have hrl := (m3 q r hr).1
  have hkk := (nb_find hNB (by rw [htp]; exact h4) (by rw [htp]; exact hrl)).2 ((hT q r).1 hr |>.imp fun y hy => hy)
  refine ⟨hov, hql, m2, hpok.nD, hll, fun L hL x hx => ?_, htl, fun u hu => ?_, hdq, fun u hu => ?_, hkn, hk64, fun hl d hd => (hcn hl d hd).1, fun hl => ?_, fun hl => ?_, hkk, ?_⟩
  · obtain ⟨z, hz⟩ := List.mem_iff_getElem?.1 hL
    have h1 := (m3 z x (by unfold memN; rw [List.getD_eq_getElem?_getD, hz]; exact hx)).1
    have h2 := h4 z
    omega
  · obtain ⟨i, hi⟩ := List.mem_iff_getElem?.1 hu
    obtain ⟨rr, e1, e2, e3, e4, -⟩ := hst i u hi
    rw [e4]
    unfold instF
    rw [List.length_map]
    exact (hfit rr (List.mem_of_getElem? e1)).ar _ List.mem_cons_self
  · obtain ⟨i, hi⟩ := List.mem_iff_getElem?.1 hu
    obtain ⟨rr, e1, e2, e3, e4, e5, -⟩ := hst i u hi
    refine ⟨rr, e1, hfit rr (List.mem_of_getElem? e1), e3, fun z hz hzn hb => ?_⟩
    obtain ⟨k, k1, k2⟩ := (hrest i u hi z (by rw [hbody u rr e1]; exact hz) hzn).1 hb
    exact ⟨k, k1, by have := (List.getElem?_eq_some_iff.1 hi).1; omega⟩
  · rw [htp]
    exact bc_check hnod hpre hC' hD hu1 hu2 hkn hk64 hl (fun d hd => (hcn hl d hd).1)
  · unfold encCt
    have h1 := fm_le encN (B := 65) (bcC m.p T1 q r).1 (fun x hx => by have := hk64 x hx; unfold encN; rw [List.length_cons]; omega)
    have h2 := fm_le encNd (B := 90) (bcC m.p T1 q r).2 (fun d hd => encNd_le (hcn hl d hd).2.1 (hcn hl d hd).2.2)
    rw [List.length_cons, List.length_cons, List.length_append, List.length_cons, List.length_cons]
    omega
  · have h9 := (hT q r).1 hr
    obtain ⟨y, hy, e⟩ := h9
    have hk : ∀ c, c < arP t.p q → r.getD c [] ∈ t.N := fun c hc => by
      rw [e, nmsT_get _ _ hc]
      exact List.mem_of_getElem? (getD_at ((hNB.td q y hy).1 c hc).2)
    exact (res_known (by rw [htp]; exact hrl) (by rw [htp]; exact h4 q) hk).2
end Go.Proofs.Qxb6500787aGreat
