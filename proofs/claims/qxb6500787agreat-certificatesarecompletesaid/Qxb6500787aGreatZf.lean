
import Derived.Test.Qxb6500787aGreatZe
import Derived.Test.Qxb6500787aGreatXh
import Derived.StillTailTactics
import Derived.Deep.QuietTactic
import Derived.BigQuiet
import Derived.Deep.RegionHeld
import Derived.Deep.CutRange
import Derived.Laws.ResultCell
import Derived.Laws.Rows
import Derived.DeepKeys
import Derived.DataBytes
import Derived.Laws.StructEq
import Derived.Laws.AppendOwn
import Derived.Laws.MakeOwn
import Derived.Lib.AppendStr
set_option linter.unusedSimpArgs false
set_option linter.unusedVariables false
namespace Go.Proofs.Qxb6500787aGreat
open Go.RowKit Go.Blk
attribute [local go_sem ↓] execOp_load execOp_store execOp_alloc
attribute [local go_sem] Tryz.ld26 Tryz.st26 Tryz.ld27 Tryz.st27 Tryz.ld28 Tryz.st28 Tryz.ld3 Tryz.st3 Tryz.ld29 Tryz.st29 Tryz.ld44 Tryz.st44 Tryz.ld4 Tryz.st4 Tryz.ld50 Tryz.st50 Tryz.ld32 Tryz.st32 Tryz.ld49 Tryz.st49 Tryz.ld68 Tryz.st68 Tryz.ld9 Tryz.st9 Tryz.ld40 Tryz.st40 Tryz.ld138 Tryz.st138 Tryz.ld139 Tryz.st139 Tryz.ld146 Tryz.st146 Tryz.ld183 Tryz.st183 Tryz.ld184 Tryz.st184 Tryz.ld192 Tryz.st192 Tryz.ld195 Tryz.st195 Tryz.ld217 Tryz.st217 Tryz.ld159 Tryz.st159 Tryz.ld142 Tryz.st142 Tryz.ld2 Tryz.st2 Tryz.ld5 Tryz.st5 Tryz.ld12 Tryz.st12 Tryz.ld21 Tryz.st21 Tryz.ld22 Tryz.st22 Tryz.ld24 Tryz.st24 Tryz.ld58 Tryz.st58 Tryz.ld97 Tryz.st97 Tryz.ld101 Tryz.st101 Tryz.ld116 Tryz.st116 Tryz.ld121 Tryz.st121 Tryz.ld135 Tryz.st135 Tryz.ld136 Tryz.st136 Tryz.ld143 Tryz.st143 Tryz.ld148 Tryz.st148 Tryz.ld154 Tryz.st154 Tryz.ld173 Tryz.st173 Tryz.ld187 Tryz.st187 Tryz.ld222 Tryz.st222 Tryz.ld241 Tryz.st241 Tryz.ld248 Tryz.st248 Tryz.ld268 Tryz.st268 Tryz.ld272 Tryz.st272 Tryz.ld153 Tryz.st153 Tryz.ld255 Tryz.st255 Tryz.ld256 Tryz.st256 Tryz.ld129 Tryz.st129 Tryz.ld152 Tryz.st152 Tryz.ld31 Tryz.st31 Tryz.ld46 Tryz.st46 Tryz.ld52 Tryz.st52 Tryz.ld54 Tryz.st54 Tryz.ld60 Tryz.st60 Tryz.ld70 Tryz.st70 Tryz.ld74 Tryz.st74 Tryz.ld93 Tryz.st93 Tryz.ld141 Tryz.st141 Tryz.ld151 Tryz.st151 Tryz.ld170 Tryz.st170 Tryz.ld186 Tryz.st186 Tryz.ld189 Tryz.st189 Tryz.ld194 Tryz.st194 Tryz.ld197 Tryz.st197 Tryz.ld219 Tryz.st219 Tryz.ld224 Tryz.st224 Tryz.ld230 Tryz.st230 Tryz.ld235 Tryz.st235 Tryz.ld243 Tryz.st243 Tryz.ld247 Tryz.st247 Tryz.ld252 Tryz.st252 Tryz.ld258 Tryz.st258 Tryz.al153 Tryz.al255 Tryz.al256 Tryz.al129 Tryz.al152 Tryz.al31 Tryz.al46 Tryz.al52 Tryz.al54 Tryz.al60 Tryz.al70 Tryz.al74 Tryz.al93 Tryz.al141 Tryz.al151 Tryz.al170 Tryz.al186 Tryz.al189 Tryz.al194 Tryz.al197 Tryz.al219 Tryz.al224 Tryz.al230 Tryz.al235 Tryz.al243 Tryz.al247 Tryz.al252 Tryz.al258
attribute [local go_sem] Request.length_enc Request.ok_enc Request.all_get Request.all_set Request.kind_get Request.kind_set Request.blob_get Request.blob_set Request.items_get Request.items_set Request.pred_get Request.pred_set Request.slots_get Request.slots_set Trace.length_enc Trace.ok_enc Trace.all_get Trace.all_set Trace.op_get Trace.op_set Trace.calls_get Trace.calls_set Item.length_enc Item.ok_enc Item.all_get Item.all_set Item.del_get Item.del_set Item.pred_get Item.pred_set Item.args_get Item.args_set Reply.length_enc Reply.ok_enc Reply.all_get Reply.all_set Reply.code_get Reply.code_set Reply.kind_get Reply.kind_set Reply.index_get Reply.index_set Reply.yes_get Reply.yes_set Reply.preds_get Reply.preds_set Reply.rules_get Reply.rules_set Reply.arity_get Reply.arity_set Reply.rows_get Reply.rows_set Reply.fact_get Reply.fact_set Reply.fact_del_get Reply.fact_del_set Reply.fact_pred_get Reply.fact_pred_set Reply.fact_args_get Reply.fact_args_set GEntry.length_enc GEntry.ok_enc GEntry.all_get GEntry.all_set GEntry.seq_get GEntry.seq_set GEntry.kind_get GEntry.kind_set GEntry.code_get GEntry.code_set GOp.length_enc GOp.ok_enc GOp.all_get GOp.all_set GOp.kind_get GOp.kind_set GOp.raw_get GOp.raw_set Reader.length_enc Reader.ok_enc Reader.all_get Reader.all_set Reader.buf_get Reader.buf_set Reader.at__get Reader.at__set Slot.length_enc Slot.ok_enc Slot.all_get Slot.all_set Slot.bound_get Slot.bound_set Slot.name_get Slot.name_set Session.length_enc Session.ok_enc Session.all_get Session.all_set Session.svc_get Session.svc_set Session.buf_get Session.buf_set Session.closed_get Session.closed_set GProgram.length_enc GProgram.ok_enc GProgram.all_get GProgram.all_set GProgram.pool_get GProgram.pool_set GProgram.preds_get GProgram.preds_set GProgram.rules_get GProgram.rules_set GProgram.strata_get GProgram.strata_set PredInfo.length_enc PredInfo.ok_enc PredInfo.all_get PredInfo.all_set PredInfo.arity_get PredInfo.arity_set PredInfo.base_get PredInfo.base_set PredInfo.stratum_get PredInfo.stratum_set Change.length_enc Change.ok_enc Change.all_get Change.all_set Change.del_get Change.del_set Change.pred_get Change.pred_set Change.t_get Change.t_set Store.length_enc Store.ok_enc Store.all_get Store.all_set Store.names_get Store.names_set Store.arity_get Store.arity_set Store.rows_get Store.rows_set Src.length_enc Src.ok_enc Src.all_get Src.all_set Src.b_get Src.b_set Src.at__get Src.at__set Atom.length_enc Atom.ok_enc Atom.all_get Atom.all_set Atom.pred_get Atom.pred_set Atom.args_get Atom.args_set GRule.length_enc GRule.ok_enc GRule.all_get GRule.all_set GRule.head_get GRule.head_set GRule.body_get GRule.body_set GRule.head_pred_get GRule.head_pred_set GRule.head_args_get GRule.head_args_set Cert.length_enc Cert.ok_enc Cert.all_get Cert.all_set Cert.names_get Cert.names_set Cert.nodes_get Cert.nodes_set Fact.length_enc Fact.ok_enc Fact.all_get Fact.all_set Fact.pred_get Fact.pred_set Fact.t_get Fact.t_set Literal.length_enc Literal.ok_enc Literal.all_get Literal.all_set Literal.neg_get Literal.neg_set Literal.atom_get Literal.atom_set Literal.atom_pred_get Literal.atom_pred_set Literal.atom_args_get Literal.atom_args_set Engine.length_enc Engine.ok_enc Engine.all_get Engine.all_set Engine.prog_get Engine.prog_set Engine.st_get Engine.st_set SrcCertm.length_enc SrcCertm.ok_enc SrcCertm.all_get SrcCertm.all_set SrcCertm.b_get SrcCertm.b_set SrcCertm.at__get SrcCertm.at__set GNode.length_enc GNode.ok_enc GNode.all_get GNode.all_set GNode.rule_get GNode.rule_set GNode.pred_get GNode.pred_set GNode.vals_get GNode.vals_set GNode.refs_get GNode.refs_set Term.length_enc Term.ok_enc Term.all_get Term.all_set Term.var_get Term.var_set Term.n_get Term.n_set Env.length_enc Env.ok_enc Env.all_get Env.all_set Env.val_get Env.val_set Env.set_get Env.set_set
attribute [local go_sem] size_put size_ext blk_put free_put blk_alloc free_alloc blk_drew free_drew blk_ext free_ext lookOr_some putOr_some segAt_some cellAt_some storeIn_some put_put put_alloc_new length_arr ok_arr_u8 ok_arr_u32 ok_arr_u64 ok_arr_i64 ok_arr_sl cellsV_agg cellsV_int cellsV_bool cellsV_string cellsV_pointer cellsV_slice cellsV_sl ok_int ok_bool ok_string ok_pointer ok_slice ok_sl toList_arr seg_arr set_arr nth_splice nth_splice0 seg_splice seg_splice0 splice_splice splice_splice0 length_splice_if
attribute [local go_sem ↓] execOp_box
attribute [local go_sem] box_run nth_arr_u8 put_arr_u8 blk_drewN free_drewN put_drewN blk_raw free_raw
theorem bI_nat {v : Int} (h : 0 ≤ v ∧ v ≤ 255) : (bI v).toNat = v.toNat := by
  unfold bI
  rw [UInt8.toNat_ofNat']
  omega
theorem bI_of (x : UInt8) : bI ((x.toNat : Nat) : Int) = x := by
  unfold bI
  rw [Int.toNat_natCast]
  exact UInt8.ofNat_toNat
theorem u8_mk {n : Nat} {x : UInt8} (h : n = x.toNat) : UInt8.ofNat n = x := by rw [h]; exact UInt8.ofNat_toNat
theorem trip {α β : Type} {p : Int × α × β} (h : p.1 = 0) : p = (0, p.2.1, p.2.2) := by obtain ⟨a, b, c⟩ := p; cases h; rfl
theorem goRw_inv : ∀ (m k : Nat) (acc : List (List (List UInt8))) (ys : List UInt8) (R : List (List (List UInt8))) (rest : List UInt8), goRw m k acc ys = (0, R, rest) → ∃ R', R = acc ++ R' ∧ R'.length = m ∧ ys = R'.flatMap encRow ++ rest ∧ ∀ r ∈ R', r.length = k ∧ ∀ x ∈ r, x.length ≤ 64
  | 0, k, acc, ys, R, rest, h => by
    have h' : (0, acc, ys) = ((0 : Int), R, rest) := h
    simp only [Prod.mk.injEq, true_and] at h'
    exact ⟨[], by rw [List.append_nil]; exact h'.1.symm, rfl, h'.2, fun r hr => by cases hr⟩
  | m + 1, k, acc, ys, R, rest, h => by
    by_cases hz : (goN k [] ys).1 = 0
    · rw [goRw_ok hz] at h
      obtain ⟨R', e1, e2, e3, e4⟩ := goRw_inv m k _ _ R rest h
      obtain ⟨L', f1, f2, f3, f4⟩ := goN_inv k [] ys _ _ (trip hz)
      rw [List.nil_append] at f1
      refine ⟨(goN k [] ys).2.1 :: R', by rw [e1, List.append_assoc]; rfl, by rw [List.length_cons, e2], ?_, fun r hr => ?_⟩
      · rw [List.flatMap_cons, List.append_assoc, ← e3]
        conv => lhs; rw [f3]
        rw [f1]; rfl
      · rcases List.mem_cons.1 hr with rfl | hr
        · rw [f1]; exact ⟨f2, f4⟩
        · exact e4 r hr
    · rw [goRw_bad hz] at h
      exact absurd (congrArg Prod.fst h) hz
theorem rowsF_inv {ys : List UInt8} {k : Nat} {R : List (List (List UInt8))} {rest : List UInt8} (h : rowsF ys = (0, k, R, rest)) : k ≤ 4 ∧ R.length ≤ 512 ∧ (∀ r ∈ R, r.length = k ∧ ∀ x ∈ r, x.length ≤ 64) ∧ ys = [UInt8.ofNat k, UInt8.ofNat (R.length / 256), UInt8.ofNat (R.length % 256)] ++ R.flatMap encRow ++ rest := by
  cases ys with
  | nil => simp [rowsF] at h
  | cons x ys =>
    rw [rowsF_cons] at h
    split at h
    · simp at h
    · split at h
      · simp at h
      · rename_i h4 h2
        obtain ⟨a, b, zs, rfl⟩ := two (xs := ys) (by omega)
        clear h2
        · have ea : ((a :: b :: zs).getD 0 0).toNat * 256 + ((a :: b :: zs).getD 1 0).toNat = a.toNat * 256 + b.toNat := rfl
          have ed : (a :: b :: zs).drop 2 = zs := rfl
          rw [ea, ed] at h
          split at h
          · simp at h
          · rename_i h5
            split at h
            · rename_i h6
              simp only [Prod.mk.injEq, true_and] at h
              obtain ⟨e1, e2, e3⟩ := h
              obtain ⟨R', f1, f2, f3, f4⟩ := goRw_inv _ _ [] zs _ _ (trip h6)
              rw [List.nil_append, e2] at f1
              subst f1
              have ha := a.toNat_lt
              have hb := b.toNat_lt
              rw [e1] at f4
              refine ⟨by omega, by omega, f4, ?_⟩
              rw [u8_mk (x := x) e1.symm, u8_mk (x := a) (by omega), u8_mk (x := b) (by omega)]
              rw [e3] at f3
              show x :: a :: b :: zs = x :: a :: b :: (R.flatMap encRow ++ rest)
              rw [f3]
            · rename_i h6
              exact absurd (congrArg Prod.fst h) h6
theorem zrows : ([] : List (List (List UInt8))).length ≤ 512 := by simp
theorem bdF_inv {k : Nat} (hk : k < 8) {ys : List UInt8} {q : PRep} {rest : List UInt8} (h : bdF k ys = (0, q, rest)) : q.code = 0 ∧ q.kind = (k : Int) ∧ RepB q ∧ ys = encBd q ++ rest ∧ q.rows.length ≤ 512 := by
  unfold bdF at h
  by_cases h1 : k = 1
  · subst h1
    rw [if_pos rfl] at h
    match ys, h with
    | [], h => simp [ldF] at h
    | [_], h => simp [ldF] at h
    | p :: r :: zs, h =>
      simp only [ldF, Prod.mk.injEq, true_and] at h
      obtain ⟨rfl, rfl⟩ := h
      have hp := p.toNat_lt
      have hr := r.toNat_lt
      refine ⟨rfl, rfl, ⟨b00, (by decide : (0 : Int) ≤ 1 ∧ (1 : Int) ≤ 255), b01, ⟨by show (0 : Int) ≤ (p.toNat : Int); omega, by show (p.toNat : Int) ≤ 255; omega⟩, ⟨by show (0 : Int) ≤ (r.toNat : Int); omega, by show (r.toNat : Int) ≤ 255; omega⟩, b00, b0r, b00, b0a⟩, ?_, zrows⟩
      show p :: r :: zs = [bI ((p.toNat : Nat) : Int), bI ((r.toNat : Nat) : Int)] ++ zs
      rw [bI_of, bI_of]; rfl
  rw [if_neg h1] at h
  by_cases h5 : k = 5
  · subst h5
    rw [if_pos rfl] at h
    simp only [Prod.mk.injEq] at h
    obtain ⟨e1, rfl, e3⟩ := h
    have ht := trip e1
    rw [e3] at ht
    have hi := tagF_inv ht
    refine ⟨rfl, rfl, ⟨b00, (by decide : (0 : Int) ≤ 5 ∧ (5 : Int) ≤ 255), b01, b00, b00, b00, b0r, b00, b0a⟩, ?_, zrows⟩
    show ys = [if (tagF ys).2.1 then 1 else 0] ++ rest
    conv => lhs; rw [hi]
    rfl
  rw [if_neg h5] at h
  by_cases h6 : k = 6
  · subst h6
    rw [if_pos rfl] at h
    simp only [Prod.mk.injEq] at h
    obtain ⟨e1, rfl, e3⟩ := h
    have ht : rowsF ys = (0, (rowsF ys).2.1, (rowsF ys).2.2.1, rest) := by rw [← e3, ← e1]
    obtain ⟨f1, f2, f3, f4⟩ := rowsF_inv ht
    refine ⟨rfl, rfl, ⟨b00, (by decide : (0 : Int) ≤ 6 ∧ (6 : Int) ≤ 255), b01, b00, b00, ⟨by show (0 : Int) ≤ ((rowsF ys).2.1 : Int); omega, by show ((rowsF ys).2.1 : Int) ≤ 255; omega⟩, ⟨f2, fun r hr => ⟨by rw [(f3 r hr).1]; exact f1, (f3 r hr).2⟩⟩, b00, b0a⟩, ?_, f2⟩
    conv => lhs; rw [f4]
    rfl
  rw [if_neg h6] at h
  by_cases h7 : k = 7
  · subst h7
    rw [if_pos rfl] at h
    simp only [Prod.mk.injEq] at h
    obtain ⟨e1, rfl, e3⟩ := h
    have ht : factF ys = (0, (factF ys).2.1, (factF ys).2.2.1, rest) := by rw [← e3, ← e1]
    obtain ⟨f1, f2, f3, f4, f5⟩ := factF_inv ht
    refine ⟨rfl, rfl, ⟨b00, (by decide : (0 : Int) ≤ 7 ∧ (7 : Int) ≤ 255), b01, b00, b00, b00, b0r, ⟨f1, f2⟩, ⟨f3, f4⟩⟩, ?_, zrows⟩
    conv => lhs; rw [f5]
    rfl
  rw [if_neg h7] at h
  simp only [Prod.mk.injEq, true_and] at h
  obtain ⟨rfl, rfl⟩ := h
  refine ⟨rfl, rfl, ⟨b00, ⟨by show (0 : Int) ≤ (k : Int); omega, by show (k : Int) ≤ 255; omega⟩, b01, b00, b00, b00, b0r, b00, b0a⟩, ?_, zrows⟩
  have e : encBd (prZ 0 (k : Int) (-1)) = [] := by
    unfold encBd
    rw [if_neg (fun h => h rfl), if_neg (by show ¬ (k : Int) = 1; omega), if_neg (by show ¬ (k : Int) = 5; omega), if_neg (by show ¬ (k : Int) = 6; omega), if_neg (by show ¬ (k : Int) = 7; omega)]
  rw [e]; rfl
/-- What is decoded encodes back. -/
theorem drF_inv {xs : List UInt8} {q : PRep} (h : drF xs = (0, q)) : encR' q = xs ∧ RepB q ∧ q.rows.length ≤ 512 ∧ ¬ (q.code = 0 ∧ q.kind = 0) := by
  match xs, h with
  | [], h => simp [drF] at h
  | [_], h => simp [drF] at h
  | x :: y :: ys, h =>
    rw [drF_cons] at h
    have hx := x.toNat_lt
    have hy := y.toNat_lt
    split at h
    · simp at h
    · split at h
      · simp at h
      · rename_i h43 h8
        split at h
        · rename_i hx0
          split at h
          · rename_i hc
            exact absurd (congrArg Prod.fst h) hc
          · rename_i hc
            split at h
            · simp at h
            · rename_i hr
              simp only [Prod.mk.injEq, true_and] at h
              have hz : (bdF y.toNat ys).1 = 0 := Classical.byContradiction hc
              have hr' : (bdF y.toNat ys).2.2 = [] := Classical.byContradiction hr
              have ht := trip hz
              rw [hr', h] at ht
              obtain ⟨f1, f2, f3, f4, f5⟩ := bdF_inv (by omega) ht
              rw [List.append_nil] at f4
              refine ⟨?_, f3, f5, fun hh => ?_⟩
              · unfold encR'
                rw [f1, f2, bI_of, ← f4, show bI 0 = x from (u8_mk (x := x) hx0.symm)]; rfl
              · rw [f2] at hh; omega
        · rename_i hx0
          have hB : ∀ i : Int, -1 ≤ i ∧ i ≤ 255 → RepB (prZ (x.toNat : Int) (y.toNat : Int) i) := fun i hi => ⟨⟨by show (0 : Int) ≤ (x.toNat : Int); omega, by show (x.toNat : Int) ≤ 255; omega⟩, ⟨by show (0 : Int) ≤ (y.toNat : Int); omega, by show (y.toNat : Int) ≤ 255; omega⟩, hi, b00, b00, b00, b0r, b00, b0a⟩
          have hne : (prZ (x.toNat : Int) (y.toNat : Int) (-1)).code ≠ 0 := by show ¬ (x.toNat : Int) = 0; omega
          split at h
          · rename_i h4
            split at h
            · simp at h
            · rename_i hd
              simp only [Prod.mk.injEq, true_and] at h
              subst h
              have hd' : ys.drop 1 = [] := Classical.byContradiction hd
              match ys, h4, hd' with
              | [], h4, _ => exact absurd rfl h4.2
              | a :: zs, h4, hd' =>
                have ez : zs = [] := hd'
                subst ez
                have ha := a.toNat_lt
                refine ⟨?_, hB _ ⟨by show (-1 : Int) ≤ (a.toNat : Int); omega, by show (a.toNat : Int) ≤ 255; omega⟩, zrows, fun hh => hx0 (by have h9 : (x.toNat : Int) = 0 := hh.1; omega)⟩
                unfold encR'
                show [bI (x.toNat : Int), bI (y.toNat : Int)] ++ encBd (prZ (x.toNat : Int) (y.toNat : Int) (a.toNat : Int)) = _
                unfold encBd
                rw [if_pos (show (prZ (x.toNat : Int) (y.toNat : Int) (a.toNat : Int)).code ≠ 0 from hne), if_pos ⟨by show (y.toNat : Int) = 4; omega, by show (0 : Int) ≤ (a.toNat : Int); omega⟩, bI_of, bI_of]
                show [x, y] ++ [bI (a.toNat : Int)] = [x, y, a]
                rw [bI_of]; rfl
          · rename_i h4
            split at h
            · simp at h
            · rename_i hd
              simp only [Prod.mk.injEq, true_and] at h
              subst h
              have hd' : ys = [] := Classical.byContradiction hd
              subst hd'
              refine ⟨?_, hB _ b01, zrows, fun hh => hx0 (by have h9 : (x.toNat : Int) = 0 := hh.1; omega)⟩
              unfold encR'
              show [bI (x.toNat : Int), bI (y.toNat : Int)] ++ encBd (prZ (x.toNat : Int) (y.toNat : Int) (-1)) = _
              unfold encBd
              rw [if_pos hne, if_neg (fun hh => absurd hh.2 (by show ¬ (0 : Int) ≤ -1; decide)), bI_of, bI_of]; rfl
theorem nameF_enc {x : List UInt8} (h : x.length ≤ 64) (rest : List UInt8) : nameF (encN x ++ rest) = (0, x, rest) := by
  unfold encN
  rw [List.cons_append, nameF_cons]
  have e : (UInt8.ofNat x.length).toNat = x.length := by rw [UInt8.toNat_ofNat']; omega
  rw [e, if_neg (by omega), if_neg (by rw [List.length_append]; omega), List.take_left, List.drop_left]
theorem goN_enc : ∀ (r acc : List (List UInt8)) (rest : List UInt8), (∀ x ∈ r, x.length ≤ 64) → goN r.length acc (r.flatMap encN ++ rest) = (0, acc ++ r, rest)
  | [], acc, rest, _ => by show (0, acc, [] ++ rest) = _; rw [List.append_nil]; rfl
  | x :: r, acc, rest, h => by
    have e := nameF_enc (h x (List.mem_cons_self ..)) (r.flatMap encN ++ rest)
    rw [List.length_cons, List.flatMap_cons, List.append_assoc, goN_ok (by rw [e]), e]
    show goN r.length (acc ++ [x]) (r.flatMap encN ++ rest) = _
    rw [goN_enc r _ rest (fun y hy => h y (List.mem_cons_of_mem _ hy)), List.append_assoc]; rfl
theorem goRw_enc : ∀ (R acc : List (List (List UInt8))) (k : Nat) (rest : List UInt8), (∀ r ∈ R, r.length = k ∧ ∀ x ∈ r, x.length ≤ 64) → goRw R.length k acc (R.flatMap encRow ++ rest) = (0, acc ++ R, rest)
  | [], acc, k, rest, _ => by show (0, acc, [] ++ rest) = _; rw [List.append_nil]; rfl
  | r :: R, acc, k, rest, h => by
    obtain ⟨h1, h2⟩ := h r (List.mem_cons_self ..)
    have e := goN_enc r [] (R.flatMap encRow ++ rest) h2
    rw [h1, List.nil_append] at e
    have e' : goN k [] (encRow r ++ (R.flatMap encRow ++ rest)) = (0, r, R.flatMap encRow ++ rest) := e
    rw [List.length_cons, List.flatMap_cons, List.append_assoc, goRw_ok (by rw [e']), e']
    show goRw R.length k (acc ++ [r]) (R.flatMap encRow ++ rest) = _
    rw [goRw_enc R _ k rest (fun y hy => h y (List.mem_cons_of_mem _ hy)), List.append_assoc]; rfl
/-- The rows have the arity's width. -/
def RowsA (q : PRep) : Prop := ∃ ar : Nat, ar ≤ 4 ∧ q.arity = (ar : Int) ∧ ∀ r ∈ q.rows, r.length = ar
theorem bdF_enc {q : PRep} (hB : RepB q) (hc : q.code = 0) (hk : 0 ≤ q.kind ∧ q.kind < 8) (hR : q.kind = 6 → RowsA q) : ∃ q', bdF q.kind.toNat (encBd q) = (0, q', []) := by
  obtain ⟨B, hBd⟩ : ∃ B, B = encBd q := ⟨_, rfl⟩
  rw [← hBd]
  unfold encBd at hBd
  rw [if_neg (fun h => h hc)] at hBd
  unfold bdF
  by_cases h1 : q.kind = 1
  · rw [if_pos (show q.kind.toNat = 1 by omega), hBd, if_pos h1]; exact ⟨_, rfl⟩
  rw [if_neg (show ¬ q.kind.toNat = 1 by omega)]
  rw [if_neg h1] at hBd
  by_cases h5 : q.kind = 5
  · rw [if_pos (show q.kind.toNat = 5 by omega), hBd, if_pos h5]
    cases q.yes <;> exact ⟨_, rfl⟩
  rw [if_neg (show ¬ q.kind.toNat = 5 by omega)]
  rw [if_neg h5] at hBd
  by_cases h6 : q.kind = 6
  · rw [if_pos (show q.kind.toNat = 6 by omega), hBd, if_pos h6]
    obtain ⟨ar, e1, e2, e3⟩ := hR h6
    have hr := hB.rows
    have ek : (bI q.arity).toNat = ar := by rw [bI_nat hB.arity]; omega
    have em : (UInt8.ofNat (q.rows.length / 256)).toNat * 256 + (UInt8.ofNat (q.rows.length % 256)).toNat = q.rows.length := by
      rw [UInt8.toNat_ofNat', UInt8.toNat_ofNat']; omega
    have eg := goRw_enc q.rows [] ar [] (fun r h => ⟨e3 r h, (hr.2 r h).2⟩)
    rw [List.append_nil, List.nil_append] at eg
    have e : rowsF ([bI q.arity, UInt8.ofNat (q.rows.length / 256), UInt8.ofNat (q.rows.length % 256)] ++ q.rows.flatMap encRow) = (0, ar, q.rows, []) := by
      show rowsF (bI q.arity :: (UInt8.ofNat (q.rows.length / 256) :: UInt8.ofNat (q.rows.length % 256) :: q.rows.flatMap encRow)) = _
      rw [rowsF_cons, ek, if_neg (by omega), if_neg (by simp)]
      show (if 512 < (UInt8.ofNat (q.rows.length / 256)).toNat * 256 + (UInt8.ofNat (q.rows.length % 256)).toNat then _ else if (goRw ((UInt8.ofNat (q.rows.length / 256)).toNat * 256 + (UInt8.ofNat (q.rows.length % 256)).toNat) ar [] (q.rows.flatMap encRow)).1 = 0 then ((0 : Int), ar, (goRw ((UInt8.ofNat (q.rows.length / 256)).toNat * 256 + (UInt8.ofNat (q.rows.length % 256)).toNat) ar [] (q.rows.flatMap encRow)).2.1, (goRw ((UInt8.ofNat (q.rows.length / 256)).toNat * 256 + (UInt8.ofNat (q.rows.length % 256)).toNat) ar [] (q.rows.flatMap encRow)).2.2) else _) = _
      rw [em, if_neg (by omega), eg, if_pos rfl]
    rw [e]; exact ⟨_, rfl⟩
  rw [if_neg (show ¬ q.kind.toNat = 6 by omega)]
  rw [if_neg h6] at hBd
  by_cases h7 : q.kind = 7
  · rw [if_pos (show q.kind.toNat = 7 by omega), hBd, if_pos h7]
    have hf := hB.fargs
    have ek : (UInt8.ofNat q.fargs.length).toNat = q.fargs.length := by rw [UInt8.toNat_ofNat']; omega
    have eg := goN_enc q.fargs [] [] hf.2
    rw [List.append_nil, List.nil_append] at eg
    have e : factF ([bI q.fpred, UInt8.ofNat q.fargs.length] ++ q.fargs.flatMap encN) = (0, (((bI q.fpred).toNat : Nat) : Int), q.fargs, []) := by
      show factF (bI q.fpred :: UInt8.ofNat q.fargs.length :: q.fargs.flatMap encN) = _
      rw [factF_cons, ek, if_neg (by omega), eg, if_pos rfl]
    rw [e]; exact ⟨_, rfl⟩
  rw [if_neg (show ¬ q.kind.toNat = 7 by omega), hBd, if_neg h7]
  exact ⟨_, rfl⟩
/-- Every reply of the service decodes. -/
theorem drF_enc {q : PRep} (hB : RepB q) (hc : 0 ≤ q.code ∧ q.code < 43) (hk : 0 ≤ q.kind ∧ q.kind < 8) (h0 : q.code = 0 → q.kind ≠ 0) (hR : q.kind = 6 → RowsA q) : ∃ q', drF (encR' q) = (0, q') := by
  show ∃ q', drF (bI q.code :: bI q.kind :: encBd q) = (0, q')
  have e1 := bI_nat hB.code
  have e2 := bI_nat hB.kind
  rw [drF_cons, e1, e2, if_neg (show ¬ 43 ≤ q.code.toNat by omega), if_neg (show ¬ (8 ≤ q.kind.toNat ∨ (q.kind.toNat = 0 ∧ q.code.toNat = 0)) by rintro (h | h); omega; exact h0 (by omega) (by omega))]
  by_cases hz : q.code = 0
  · obtain ⟨q', e⟩ := bdF_enc hB hz hk hR
    rw [if_pos (show q.code.toNat = 0 by omega), e]
    exact ⟨q', rfl⟩
  · rw [if_neg (show ¬ q.code.toNat = 0 by omega)]
    unfold encBd
    rw [if_pos hz]
    by_cases h4 : q.kind = 4 ∧ 0 ≤ q.index
    · rw [if_pos h4, if_pos (show q.kind.toNat = 4 ∧ [bI q.index] ≠ [] from ⟨by omega, by simp⟩)]
      exact ⟨_, rfl⟩
    · rw [if_neg h4, if_neg (fun h => h.2 rfl)]
      exact ⟨_, rfl⟩
theorem ptQ.ra (t : InsS) (pr : Nat) (L : List Slt) (hL : L.length ≤ 4) : RowsA (ptQ t pr L) := by
  unfold ptQ
  by_cases e : crF t.p pr L.length ≠ 0
  · rw [if_pos e]; exact ⟨0, by omega, rfl, fun r h => by cases h⟩
  · rw [if_neg e]
    refine ⟨L.length, hL, rfl, fun r hr => ?_⟩
    obtain ⟨x, hx, rfl⟩ := List.mem_map.1 (srtR_mem hr)
    exact nmsT_len _ _ _
theorem svR.dec {s s' : Sv} (hI : ∀ t, s.inst = some t → InG t) {raw : List UInt8} (hr : raw.length ≤ 65536) {q : PRep} (h : svR s raw q s') : ∃ q', drF (encR' q) = (0, q') := by
  obtain ⟨s1, h, -⟩ := h
  obtain ⟨hk, hc, hB⟩ := svR.k (s' := s) hI hr h
  refine drF_enc hB hc hk (fun hz => ?_) (fun h6 => ?_)
  · rcases h with ⟨h0, rfl, -⟩ | ⟨h0, h⟩
    · exact absurd hz h0
    · have hw := decF_wf hr h0
      rcases dsR.k (s := s.clr) hw (fun t ht => hI t ht) h with ⟨-, -, rfl, -⟩ | h
      · exact absurd (show (10 : Int) = 0 from hz) (by decide)
      · rw [h.kind]; have := hw.kind; omega
  · rcases h with ⟨h0, rfl, -⟩ | ⟨h0, h⟩
    · exact absurd (show (0 : Int) = 6 from h6) (by decide)
    · have hw := decF_wf hr h0
      have h9 := h
      rcases h with ⟨hk, rep, hP, rfl⟩ | ⟨hk, hn, rfl, rfl⟩ | ⟨t, ht, h⟩
      · exact absurd (hP.k.kind.symm.trans h6) (by decide)
      · exact ⟨0, by omega, rfl, fun r h => by cases h⟩
      · rcases h with ⟨hk, rep, hP, rfl⟩ | ⟨hk, rep, hP, rfl⟩ | ⟨hk, rep, hP, rfl⟩ | ⟨hk, rep, hP, rfl⟩ | ⟨hk, rfl, -⟩ | ⟨hk, rfl, -⟩
        · exact absurd (hP.k.kind.symm.trans h6) (by decide)
        · exact absurd (hP.k.kind.symm.trans h6) (by decide)
        · exact absurd ((btR.k hw.len hP).kind.symm.trans h6) (by decide)
        · have h8 := qyF.k s.clr t (itP (decF raw).2) (itA (decF raw).2)
          rw [← hP] at h8
          exact absurd (h8.kind.symm.trans h6) (by decide)
        · exact ptQ.ra t _ _ hw.slots
        · exact absurd ((grQ.k (hI t ht) _).kind.symm.trans h6) (by decide)
end Go.Proofs.Qxb6500787aGreat
