import Derived.Test.Qxb6500787aGreatPe

import Derived.StillTailTactics
import Derived.Deep.QuietTactic
import Derived.BigQuiet
import Derived.Deep.RegionHeld
import Derived.Deep.CutRange
import Derived.Laws.ResultCell
import Derived.Laws.Rows
import Derived.DeepKeys
import Derived.DataBytes
import Derived.Laws.StructEq
import Derived.Laws.AppendOwn
import Derived.Laws.MakeOwn
import Derived.Lib.AppendStr
set_option linter.unusedSimpArgs false
set_option linter.unusedVariables false
namespace Go.Proofs.Qxb6500787aGreat
open Go.RowKit Go.Blk
attribute [local go_sem ↓] execOp_load execOp_store execOp_alloc
attribute [local go_sem] Tryz.ld26 Tryz.st26 Tryz.ld27 Tryz.st27 Tryz.ld28 Tryz.st28 Tryz.ld3 Tryz.st3 Tryz.ld29 Tryz.st29 Tryz.ld44 Tryz.st44 Tryz.ld4 Tryz.st4 Tryz.ld50 Tryz.st50 Tryz.ld32 Tryz.st32 Tryz.ld49 Tryz.st49 Tryz.ld68 Tryz.st68 Tryz.ld9 Tryz.st9 Tryz.ld40 Tryz.st40 Tryz.ld138 Tryz.st138 Tryz.ld139 Tryz.st139 Tryz.ld146 Tryz.st146 Tryz.ld183 Tryz.st183 Tryz.ld184 Tryz.st184 Tryz.ld192 Tryz.st192 Tryz.ld195 Tryz.st195 Tryz.ld217 Tryz.st217 Tryz.ld159 Tryz.st159 Tryz.ld142 Tryz.st142 Tryz.ld2 Tryz.st2 Tryz.ld5 Tryz.st5 Tryz.ld12 Tryz.st12 Tryz.ld21 Tryz.st21 Tryz.ld22 Tryz.st22 Tryz.ld24 Tryz.st24 Tryz.ld58 Tryz.st58 Tryz.ld97 Tryz.st97 Tryz.ld101 Tryz.st101 Tryz.ld116 Tryz.st116 Tryz.ld121 Tryz.st121 Tryz.ld135 Tryz.st135 Tryz.ld136 Tryz.st136 Tryz.ld143 Tryz.st143 Tryz.ld148 Tryz.st148 Tryz.ld154 Tryz.st154 Tryz.ld173 Tryz.st173 Tryz.ld187 Tryz.st187 Tryz.ld222 Tryz.st222 Tryz.ld241 Tryz.st241 Tryz.ld248 Tryz.st248 Tryz.ld268 Tryz.st268 Tryz.ld272 Tryz.st272 Tryz.ld153 Tryz.st153 Tryz.ld255 Tryz.st255 Tryz.ld256 Tryz.st256 Tryz.ld129 Tryz.st129 Tryz.ld152 Tryz.st152 Tryz.ld31 Tryz.st31 Tryz.ld46 Tryz.st46 Tryz.ld52 Tryz.st52 Tryz.ld54 Tryz.st54 Tryz.ld60 Tryz.st60 Tryz.ld70 Tryz.st70 Tryz.ld74 Tryz.st74 Tryz.ld93 Tryz.st93 Tryz.ld141 Tryz.st141 Tryz.ld151 Tryz.st151 Tryz.ld170 Tryz.st170 Tryz.ld186 Tryz.st186 Tryz.ld189 Tryz.st189 Tryz.ld194 Tryz.st194 Tryz.ld197 Tryz.st197 Tryz.ld219 Tryz.st219 Tryz.ld224 Tryz.st224 Tryz.ld230 Tryz.st230 Tryz.ld235 Tryz.st235 Tryz.ld243 Tryz.st243 Tryz.ld247 Tryz.st247 Tryz.ld252 Tryz.st252 Tryz.ld258 Tryz.st258 Tryz.al153 Tryz.al255 Tryz.al256 Tryz.al129 Tryz.al152 Tryz.al31 Tryz.al46 Tryz.al52 Tryz.al54 Tryz.al60 Tryz.al70 Tryz.al74 Tryz.al93 Tryz.al141 Tryz.al151 Tryz.al170 Tryz.al186 Tryz.al189 Tryz.al194 Tryz.al197 Tryz.al219 Tryz.al224 Tryz.al230 Tryz.al235 Tryz.al243 Tryz.al247 Tryz.al252 Tryz.al258
attribute [local go_sem] Request.length_enc Request.ok_enc Request.all_get Request.all_set Request.kind_get Request.kind_set Request.blob_get Request.blob_set Request.items_get Request.items_set Request.pred_get Request.pred_set Request.slots_get Request.slots_set Trace.length_enc Trace.ok_enc Trace.all_get Trace.all_set Trace.op_get Trace.op_set Trace.calls_get Trace.calls_set Item.length_enc Item.ok_enc Item.all_get Item.all_set Item.del_get Item.del_set Item.pred_get Item.pred_set Item.args_get Item.args_set Reply.length_enc Reply.ok_enc Reply.all_get Reply.all_set Reply.code_get Reply.code_set Reply.kind_get Reply.kind_set Reply.index_get Reply.index_set Reply.yes_get Reply.yes_set Reply.preds_get Reply.preds_set Reply.rules_get Reply.rules_set Reply.arity_get Reply.arity_set Reply.rows_get Reply.rows_set Reply.fact_get Reply.fact_set Reply.fact_del_get Reply.fact_del_set Reply.fact_pred_get Reply.fact_pred_set Reply.fact_args_get Reply.fact_args_set GEntry.length_enc GEntry.ok_enc GEntry.all_get GEntry.all_set GEntry.seq_get GEntry.seq_set GEntry.kind_get GEntry.kind_set GEntry.code_get GEntry.code_set GOp.length_enc GOp.ok_enc GOp.all_get GOp.all_set GOp.kind_get GOp.kind_set GOp.raw_get GOp.raw_set Reader.length_enc Reader.ok_enc Reader.all_get Reader.all_set Reader.buf_get Reader.buf_set Reader.at__get Reader.at__set Slot.length_enc Slot.ok_enc Slot.all_get Slot.all_set Slot.bound_get Slot.bound_set Slot.name_get Slot.name_set Session.length_enc Session.ok_enc Session.all_get Session.all_set Session.svc_get Session.svc_set Session.buf_get Session.buf_set Session.closed_get Session.closed_set GProgram.length_enc GProgram.ok_enc GProgram.all_get GProgram.all_set GProgram.pool_get GProgram.pool_set GProgram.preds_get GProgram.preds_set GProgram.rules_get GProgram.rules_set GProgram.strata_get GProgram.strata_set PredInfo.length_enc PredInfo.ok_enc PredInfo.all_get PredInfo.all_set PredInfo.arity_get PredInfo.arity_set PredInfo.base_get PredInfo.base_set PredInfo.stratum_get PredInfo.stratum_set Change.length_enc Change.ok_enc Change.all_get Change.all_set Change.del_get Change.del_set Change.pred_get Change.pred_set Change.t_get Change.t_set Store.length_enc Store.ok_enc Store.all_get Store.all_set Store.names_get Store.names_set Store.arity_get Store.arity_set Store.rows_get Store.rows_set Src.length_enc Src.ok_enc Src.all_get Src.all_set Src.b_get Src.b_set Src.at__get Src.at__set Atom.length_enc Atom.ok_enc Atom.all_get Atom.all_set Atom.pred_get Atom.pred_set Atom.args_get Atom.args_set GRule.length_enc GRule.ok_enc GRule.all_get GRule.all_set GRule.head_get GRule.head_set GRule.body_get GRule.body_set GRule.head_pred_get GRule.head_pred_set GRule.head_args_get GRule.head_args_set Cert.length_enc Cert.ok_enc Cert.all_get Cert.all_set Cert.names_get Cert.names_set Cert.nodes_get Cert.nodes_set Fact.length_enc Fact.ok_enc Fact.all_get Fact.all_set Fact.pred_get Fact.pred_set Fact.t_get Fact.t_set Literal.length_enc Literal.ok_enc Literal.all_get Literal.all_set Literal.neg_get Literal.neg_set Literal.atom_get Literal.atom_set Literal.atom_pred_get Literal.atom_pred_set Literal.atom_args_get Literal.atom_args_set Engine.length_enc Engine.ok_enc Engine.all_get Engine.all_set Engine.prog_get Engine.prog_set Engine.st_get Engine.st_set SrcCertm.length_enc SrcCertm.ok_enc SrcCertm.all_get SrcCertm.all_set SrcCertm.b_get SrcCertm.b_set SrcCertm.at__get SrcCertm.at__set GNode.length_enc GNode.ok_enc GNode.all_get GNode.all_set GNode.rule_get GNode.rule_set GNode.pred_get GNode.pred_set GNode.vals_get GNode.vals_set GNode.refs_get GNode.refs_set Term.length_enc Term.ok_enc Term.all_get Term.all_set Term.var_get Term.var_set Term.n_get Term.n_set Env.length_enc Env.ok_enc Env.all_get Env.all_set Env.val_get Env.val_set Env.set_get Env.set_set
attribute [local go_sem] size_put size_ext blk_put free_put blk_alloc free_alloc blk_drew free_drew blk_ext free_ext lookOr_some putOr_some segAt_some cellAt_some storeIn_some put_put put_alloc_new length_arr ok_arr_u8 ok_arr_u32 ok_arr_u64 ok_arr_i64 ok_arr_sl cellsV_agg cellsV_int cellsV_bool cellsV_string cellsV_pointer cellsV_slice cellsV_sl ok_int ok_bool ok_string ok_pointer ok_slice ok_sl toList_arr seg_arr set_arr nth_splice nth_splice0 seg_splice seg_splice0 splice_splice splice_splice0 length_splice_if
attribute [local go_sem ↓] execOp_box
attribute [local go_sem] box_run nth_arr_u8 put_arr_u8 blk_drewN free_drewN put_drewN blk_raw free_raw
/-- The state in memory, with its owner: the policy and the facts are constants. -/
structure MAo (O : Own) (W : World) (bm : Nat) (m : MS) (Ce : List Value) (fa : Option Addr) (fc : Nat) : Prop where
  cell : blk W bm = some Ce
  fre : free W bm = true
  own : O bm = .a 5 50
  len : Ce.length = 7
  ld : nth Ce 0 = some (.bool m.ld)
  pg : m.ld = true → PgR (core O W) (Ce.drop 2) m.p
  fs : nth Ce 6 = some (.slice fa m.F.length fc)
  fc : m.ld = true → FactsAt (core O W) fa m.F.length m.F
theorem MAo.at {O : Own} {W : World} {bm : Nat} {m : MS} {Ce : List Value} {fa : Option Addr} {fc : Nat} (h : MAo O W bm m Ce fa fc) : MAt W bm m Ce fa fc := ⟨h.cell, h.len, h.ld, fun e => (h.pg e).sub (Sub.core _ _), h.fs, fun e => (h.fc e).sub (Sub.core _ _)⟩
theorem core_grow {O : Own} {W V : World} (hx : W.Extends V) : Sub (core O W) (core (lab O W.heap.size .no) V) := Sub.cores fun b C hb ho => ⟨(hx.blk (blk_lt hb)).trans hb, by rw [lab_lt (blk_lt hb)]; exact ho⟩
theorem MAo.ext {O : Own} {W V : World} {bm : Nat} {m : MS} {Ce : List Value} {fa : Option Addr} {fc : Nat} (h : MAo O W bm m Ce fa fc) (hx : W.Extends V) : MAo (lab O W.heap.size .no) V bm m Ce fa fc := ⟨(hx.blk (blk_lt h.cell)).trans h.cell, (free_of_heap (hx.block bm (blk_lt h.cell))).trans h.fre, by rw [lab_lt (blk_lt h.cell)]; exact h.own, h.len, h.ld, fun e => (h.pg e).sub (core_grow hx), h.fs, fun e => (h.fc e).sub (core_grow hx)⟩
theorem MAo.on {O : Own} {W V : World} {bm : Nat} {m : MS} {Ce : List Value} {fa : Option Addr} {fc : Nat} (h : MAo O W bm m Ce fa fc) (hx : W.Extends V) : OnG W bm V Ce := ⟨hx.os, hx.tape, hx.output, hx.size, fun k hk _ => hx.block k hk, (h.ext hx).cell, (h.ext hx).fre⟩
/-- What a handler of the model leaves. -/
def UpPost (O : Own) (W : World) (bm : Nat) (R : List UInt8 → MS → Prop) (e : Ending) (V : World) : Prop := ∃ xs a n c m' Ce' fa' fc', e = .returned (.slice a n c) ∧ OnG W bm V Ce' ∧ MAo (lab O W.heap.size .no) V bm m' Ce' fa' fc' ∧ V.ownsRow W.heap.size 5 1 (.slice a n c) xs.length (bv xs) ∧ n = xs.length ∧ R xs m'
theorem up_of {O : Own} {W V : World} {bm : Nat} {m : MS} {Ce : List Value} {fa : Option Addr} {fc : Nat} (h : MAo O W bm m Ce fa fc) {R : List UInt8 → MS → Prop} {xs : List UInt8} {a : Option Addr} {n c : Nat} (ho : Ob W V a n c xs) (hR : R xs m) : UpPost O W bm R (.returned (.slice a n c)) V := ⟨xs, a, n, c, m, Ce, fa, fc, rfl, h.on ho.2.1, h.ext ho.2.1, ho.1, ho.2.2, hR⟩
/-- An update, plainly. -/
def UpR (m : MS) (kd : Nat) (L : List It) (xs : List UInt8) (m' : MS) : Prop :=
  (∃ c i, ckL m.p L 0 = some (c, i) ∧ xs = rfA c.toNat kd i ∧ m' = m) ∨
  (ckL m.p L 0 = none ∧ ((256 < (wanF m.p.pool m.F L).length ∧ xs = [UInt8.ofNat 16, UInt8.ofNat kd] ∧ m' = m) ∨
    ((wanF m.p.pool m.F L).length ≤ 256 ∧ (((aftF m.F 0 L).1 ≠ 0 ∧ xs = rfA (aftF m.F 0 L).1.toNat kd (aftF m.F 0 L).2.1.toNat ∧ m' = m) ∨
      ((aftF m.F 0 L).1 = 0 ∧ ∃ F1 T1, PfTo m.p (constF m.p.pool (aftF m.F 0 L).2.2) 0 (aftF m.F 0 L).2.2 [] F1 T1 ∧ ((overN F1 = true ∧ xs = [UInt8.ofNat 16, UInt8.ofNat kd] ∧ m' = m) ∨ (overN F1 = false ∧ xs = [UInt8.ofNat 0, UInt8.ofNat kd] ∧ m' = ⟨true, m.p, (aftF m.F 0 L).2.2⟩)))))))
/-- Where the names of the facts after an update come from. -/
theorem aftF_ok {G : List (List UInt8)} : ∀ (L : List It) (F : List (List NRow)) (i : Nat), (∀ q r, memN F q r → ∀ x ∈ r, x ∈ G) → (∀ it ∈ L, it.1 = false → ∀ x ∈ it.2.2, x ∈ G) → (aftF F i L).1 = 0 → ∀ q r, memN (aftF F i L).2.2 q r → ∀ x ∈ r, x ∈ G
  | [], F, i, hF, _, _ => hF
  | it :: L, F, i, hF, hL, h => by
    unfold aftF at h ⊢
    have hL' : ∀ y ∈ L, y.1 = false → ∀ x ∈ y.2.2, x ∈ G := fun y hy => hL y (List.mem_cons_of_mem _ hy)
    split at h
    · rename_i hd
      rw [if_pos hd]
      split at h
      · cases h
      · rename_i hm
        rw [if_neg hm]
        refine aftF_ok L _ _ (fun q r hr x hx => ?_) hL' h
        unfold memN addRN at hr
        rw [List.getD_eq_getElem?_getD, List.getElem?_set] at hr
        split at hr
        · split at hr
          · rcases List.mem_append.1 hr with h1 | h1
            · exact hF _ r h1 x hx
            · rw [List.mem_singleton.1 h1] at hx
              exact hL it List.mem_cons_self hd x hx
          · cases hr
        · rw [← List.getD_eq_getElem?_getD] at hr
          exact hF q r hr x hx
    · rename_i hd
      rw [if_neg hd]
      split at h
      · rename_i hm
        rw [if_pos hm]
        refine aftF_ok L _ _ (fun q r hr x hx => ?_) hL' h
        unfold memN at hr
        rw [List.getD_eq_getElem?_getD, List.getElem?_set] at hr
        split at hr
        · split at hr
          · exact hF _ r (List.mem_filter.1 hr).1 x hx
          · cases hr
        · rw [← List.getD_eq_getElem?_getD] at hr
          exact hF q r hr x hx
      · cases h
theorem foldN_sub : ∀ (K L : List (List UInt8)) (x : List UInt8), x ∈ L → x ∈ K.foldl addN L
  | [], L, x, h => h
  | y :: K, L, x, h => foldN_sub K _ x (by unfold addN; split; exact h; exact List.mem_append_left _ h)
theorem foldN_in : ∀ (K L : List (List UInt8)) (x : List UInt8), x ∈ K → x ∈ K.foldl addN L
  | [], L, x, h => by cases h
  | y :: K, L, x, h => by
    rcases List.mem_cons.1 h with rfl | h
    · refine foldN_sub K _ x ?_
      unfold addN
      split
      · assumption
      · exact List.mem_append_right _ (List.mem_singleton.2 rfl)
    · exact foldN_in K _ x h
theorem wanL_sub : ∀ (L : List It) (ns : List (List UInt8)) (x : List UInt8), x ∈ ns → x ∈ L.foldl wanI ns
  | [], ns, x, h => h
  | it :: L, ns, x, h => wanL_sub L _ x (by unfold wanI; split; exact h; exact foldN_sub _ _ x h)
theorem wanL_in : ∀ (L : List It) (ns : List (List UInt8)) (it : It), it ∈ L → it.1 = false → ∀ x ∈ it.2.2, x ∈ L.foldl wanI ns
  | [], ns, it, h, _, x, hx => by cases h
  | y :: L, ns, it, h, hd, x, hx => by
    rcases List.mem_cons.1 h with rfl | h
    · refine wanL_sub L _ x ?_
      unfold wanI
      rw [if_neg (by rw [hd]; decide)]
      exact foldN_in _ _ x hx
    · exact wanL_in L _ it h hd x hx
theorem after_con {pool : List (List UInt8)} {F : List (List NRow)} {L : List It} (h : (aftF F 0 L).1 = 0) : (constF pool (aftF F 0 L).2.2).length ≤ (wanF pool F L).length := nodup_sub _ _ (constF_nd _ _) (fun x hx => by
  have hc : ∀ y ∈ constF pool F, y ∈ wanF pool F L := fun y hy => wanL_sub L _ y hy
  rcases constF_mem.1 hx with h9 | ⟨Ls, h1, r, h2, h3⟩
  · exact hc x (constF_mem.2 (.inl h9))
  · obtain ⟨q, hq⟩ := List.mem_iff_getElem?.1 h1
    refine aftF_ok (G := wanF pool F L) L F 0 (fun q r hr y hy => ?_) (fun it hit hd y hy => wanL_in L _ it hit hd y hy) h q r (by unfold memN; rw [List.getD_eq_getElem?_getD, hq]; exact h2) x h3
    refine hc y (constF_mem.2 (.inr ?_))
    have hr' : r ∈ F.getD q [] := hr
    rw [List.getD_eq_getElem?_getD] at hr'
    cases hq' : F[q]? with
    | none => rw [hq'] at hr'; cases hr'
    | some M => rw [hq'] at hr'; exact ⟨M, List.mem_of_getElem? hq', r, hr', hy⟩)
/-- How long the lists may be. -/
theorem aftF_bd : ∀ (L : List It) (F : List (List NRow)) (i B : Nat), (∀ M ∈ F, M.length ≤ B) → Rows4 F → (∀ it ∈ L, it.2.2.length ≤ 4) → (aftF F i L).1 = 0 → (aftF F i L).2.2.length = F.length ∧ (∀ M ∈ (aftF F i L).2.2, M.length ≤ B + L.length) ∧ Rows4 (aftF F i L).2.2
  | [], F, i, B, hF, h4, _, _ => ⟨rfl, hF, h4⟩
  | it :: L, F, i, B, hF, h4, hL, h => by
    unfold aftF at h ⊢
    have hL' : ∀ y ∈ L, y.2.2.length ≤ 4 := fun y hy => hL y (List.mem_cons_of_mem _ hy)
    have hgd : ∀ q, (F.getD q []).length ≤ B := getD_len hF
    split at h
    · rename_i hd
      rw [if_pos hd]
      split at h
      · cases h
      · rename_i hm
        rw [if_neg hm]
        obtain ⟨k1, k2, k3⟩ := aftF_bd L _ (i + 1) (B + 1) (fun M hM => by
          rcases addRN_mem hM with h9 | h9
          · have := hF M h9; omega
          · rw [h9, List.length_append, List.length_singleton]
            have := hgd it.2.1.toNat
            omega) (h4.add (hL it List.mem_cons_self)) hL' h
        exact ⟨by rw [k1, addRN_len], fun M hM => by have := k2 M hM; rw [List.length_cons]; omega, k3⟩
    · rename_i hd
      rw [if_neg hd]
      split at h
      · rename_i hm
        rw [if_pos hm]
        obtain ⟨k1, k2, k3⟩ := aftF_bd L _ (i + 1) B (set_bd hF (Nat.le_trans (List.length_filter_le _ _) (hgd _))) (fun M hM x hx => by
          rcases List.mem_or_eq_of_mem_set hM with h1 | h1
          · exact h4 M h1 x hx
          · rw [h1] at hx
            have h2 := (List.mem_filter.1 hx).1
            rw [List.getD_eq_getElem?_getD] at h2
            cases hq : F[it.2.1.toNat]? with
            | none => rw [hq] at h2; cases h2
            | some M' => rw [hq] at h2; exact h4 M' (List.mem_of_getElem? hq) x h2) hL' h
        exact ⟨by rw [k1, List.length_set], fun M hM => by have := k2 M hM; rw [List.length_cons]; omega, k3⟩
      · cases h
end Go.Proofs.Qxb6500787aGreat
