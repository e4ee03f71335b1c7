
import Derived.Test.Qxb6500787aGreatZl
import Derived.StillTailTactics
import Derived.Deep.QuietTactic
import Derived.BigQuiet
import Derived.Deep.RegionHeld
import Derived.Deep.CutRange
import Derived.Laws.ResultCell
import Derived.Laws.Rows
import Derived.DeepKeys
import Derived.DataBytes
import Derived.Laws.StructEq
import Derived.Laws.AppendOwn
import Derived.Laws.MakeOwn
import Derived.Lib.AppendStr
set_option linter.unusedSimpArgs false
set_option linter.unusedVariables false
namespace Go.Proofs.Qxb6500787aGreat
open Go.RowKit Go.Blk
attribute [local go_sem ↓] execOp_load execOp_store execOp_alloc
attribute [local go_sem] Tryz.ld26 Tryz.st26 Tryz.ld27 Tryz.st27 Tryz.ld28 Tryz.st28 Tryz.ld3 Tryz.st3 Tryz.ld29 Tryz.st29 Tryz.ld44 Tryz.st44 Tryz.ld4 Tryz.st4 Tryz.ld50 Tryz.st50 Tryz.ld32 Tryz.st32 Tryz.ld49 Tryz.st49 Tryz.ld68 Tryz.st68 Tryz.ld9 Tryz.st9 Tryz.ld40 Tryz.st40 Tryz.ld138 Tryz.st138 Tryz.ld139 Tryz.st139 Tryz.ld146 Tryz.st146 Tryz.ld183 Tryz.st183 Tryz.ld184 Tryz.st184 Tryz.ld192 Tryz.st192 Tryz.ld195 Tryz.st195 Tryz.ld217 Tryz.st217 Tryz.ld159 Tryz.st159 Tryz.ld142 Tryz.st142 Tryz.ld2 Tryz.st2 Tryz.ld5 Tryz.st5 Tryz.ld12 Tryz.st12 Tryz.ld21 Tryz.st21 Tryz.ld22 Tryz.st22 Tryz.ld24 Tryz.st24 Tryz.ld58 Tryz.st58 Tryz.ld97 Tryz.st97 Tryz.ld101 Tryz.st101 Tryz.ld116 Tryz.st116 Tryz.ld121 Tryz.st121 Tryz.ld135 Tryz.st135 Tryz.ld136 Tryz.st136 Tryz.ld143 Tryz.st143 Tryz.ld148 Tryz.st148 Tryz.ld154 Tryz.st154 Tryz.ld173 Tryz.st173 Tryz.ld187 Tryz.st187 Tryz.ld222 Tryz.st222 Tryz.ld241 Tryz.st241 Tryz.ld248 Tryz.st248 Tryz.ld268 Tryz.st268 Tryz.ld272 Tryz.st272 Tryz.ld153 Tryz.st153 Tryz.ld255 Tryz.st255 Tryz.ld256 Tryz.st256 Tryz.ld129 Tryz.st129 Tryz.ld152 Tryz.st152 Tryz.ld31 Tryz.st31 Tryz.ld46 Tryz.st46 Tryz.ld52 Tryz.st52 Tryz.ld54 Tryz.st54 Tryz.ld60 Tryz.st60 Tryz.ld70 Tryz.st70 Tryz.ld74 Tryz.st74 Tryz.ld93 Tryz.st93 Tryz.ld141 Tryz.st141 Tryz.ld151 Tryz.st151 Tryz.ld170 Tryz.st170 Tryz.ld186 Tryz.st186 Tryz.ld189 Tryz.st189 Tryz.ld194 Tryz.st194 Tryz.ld197 Tryz.st197 Tryz.ld219 Tryz.st219 Tryz.ld224 Tryz.st224 Tryz.ld230 Tryz.st230 Tryz.ld235 Tryz.st235 Tryz.ld243 Tryz.st243 Tryz.ld247 Tryz.st247 Tryz.ld252 Tryz.st252 Tryz.ld258 Tryz.st258 Tryz.al153 Tryz.al255 Tryz.al256 Tryz.al129 Tryz.al152 Tryz.al31 Tryz.al46 Tryz.al52 Tryz.al54 Tryz.al60 Tryz.al70 Tryz.al74 Tryz.al93 Tryz.al141 Tryz.al151 Tryz.al170 Tryz.al186 Tryz.al189 Tryz.al194 Tryz.al197 Tryz.al219 Tryz.al224 Tryz.al230 Tryz.al235 Tryz.al243 Tryz.al247 Tryz.al252 Tryz.al258
attribute [local go_sem] Request.length_enc Request.ok_enc Request.all_get Request.all_set Request.kind_get Request.kind_set Request.blob_get Request.blob_set Request.items_get Request.items_set Request.pred_get Request.pred_set Request.slots_get Request.slots_set Trace.length_enc Trace.ok_enc Trace.all_get Trace.all_set Trace.op_get Trace.op_set Trace.calls_get Trace.calls_set Item.length_enc Item.ok_enc Item.all_get Item.all_set Item.del_get Item.del_set Item.pred_get Item.pred_set Item.args_get Item.args_set Reply.length_enc Reply.ok_enc Reply.all_get Reply.all_set Reply.code_get Reply.code_set Reply.kind_get Reply.kind_set Reply.index_get Reply.index_set Reply.yes_get Reply.yes_set Reply.preds_get Reply.preds_set Reply.rules_get Reply.rules_set Reply.arity_get Reply.arity_set Reply.rows_get Reply.rows_set Reply.fact_get Reply.fact_set Reply.fact_del_get Reply.fact_del_set Reply.fact_pred_get Reply.fact_pred_set Reply.fact_args_get Reply.fact_args_set GEntry.length_enc GEntry.ok_enc GEntry.all_get GEntry.all_set GEntry.seq_get GEntry.seq_set GEntry.kind_get GEntry.kind_set GEntry.code_get GEntry.code_set GOp.length_enc GOp.ok_enc GOp.all_get GOp.all_set GOp.kind_get GOp.kind_set GOp.raw_get GOp.raw_set Reader.length_enc Reader.ok_enc Reader.all_get Reader.all_set Reader.buf_get Reader.buf_set Reader.at__get Reader.at__set Slot.length_enc Slot.ok_enc Slot.all_get Slot.all_set Slot.bound_get Slot.bound_set Slot.name_get Slot.name_set Session.length_enc Session.ok_enc Session.all_get Session.all_set Session.svc_get Session.svc_set Session.buf_get Session.buf_set Session.closed_get Session.closed_set GProgram.length_enc GProgram.ok_enc GProgram.all_get GProgram.all_set GProgram.pool_get GProgram.pool_set GProgram.preds_get GProgram.preds_set GProgram.rules_get GProgram.rules_set GProgram.strata_get GProgram.strata_set PredInfo.length_enc PredInfo.ok_enc PredInfo.all_get PredInfo.all_set PredInfo.arity_get PredInfo.arity_set PredInfo.base_get PredInfo.base_set PredInfo.stratum_get PredInfo.stratum_set Change.length_enc Change.ok_enc Change.all_get Change.all_set Change.del_get Change.del_set Change.pred_get Change.pred_set Change.t_get Change.t_set Store.length_enc Store.ok_enc Store.all_get Store.all_set Store.names_get Store.names_set Store.arity_get Store.arity_set Store.rows_get Store.rows_set Src.length_enc Src.ok_enc Src.all_get Src.all_set Src.b_get Src.b_set Src.at__get Src.at__set Atom.length_enc Atom.ok_enc Atom.all_get Atom.all_set Atom.pred_get Atom.pred_set Atom.args_get Atom.args_set GRule.length_enc GRule.ok_enc GRule.all_get GRule.all_set GRule.head_get GRule.head_set GRule.body_get GRule.body_set GRule.head_pred_get GRule.head_pred_set GRule.head_args_get GRule.head_args_set Cert.length_enc Cert.ok_enc Cert.all_get Cert.all_set Cert.names_get Cert.names_set Cert.nodes_get Cert.nodes_set Fact.length_enc Fact.ok_enc Fact.all_get Fact.all_set Fact.pred_get Fact.pred_set Fact.t_get Fact.t_set Literal.length_enc Literal.ok_enc Literal.all_get Literal.all_set Literal.neg_get Literal.neg_set Literal.atom_get Literal.atom_set Literal.atom_pred_get Literal.atom_pred_set Literal.atom_args_get Literal.atom_args_set Engine.length_enc Engine.ok_enc Engine.all_get Engine.all_set Engine.prog_get Engine.prog_set Engine.st_get Engine.st_set SrcCertm.length_enc SrcCertm.ok_enc SrcCertm.all_get SrcCertm.all_set SrcCertm.b_get SrcCertm.b_set SrcCertm.at__get SrcCertm.at__set GNode.length_enc GNode.ok_enc GNode.all_get GNode.all_set GNode.rule_get GNode.rule_set GNode.pred_get GNode.pred_set GNode.vals_get GNode.vals_set GNode.refs_get GNode.refs_set Term.length_enc Term.ok_enc Term.all_get Term.all_set Term.var_get Term.var_set Term.n_get Term.n_set Env.length_enc Env.ok_enc Env.all_get Env.all_set Env.val_get Env.val_set Env.set_get Env.set_set
attribute [local go_sem] size_put size_ext blk_put free_put blk_alloc free_alloc blk_drew free_drew blk_ext free_ext lookOr_some putOr_some segAt_some cellAt_some storeIn_some put_put put_alloc_new length_arr ok_arr_u8 ok_arr_u32 ok_arr_u64 ok_arr_i64 ok_arr_sl cellsV_agg cellsV_int cellsV_bool cellsV_string cellsV_pointer cellsV_slice cellsV_sl ok_int ok_bool ok_string ok_pointer ok_slice ok_sl toList_arr seg_arr set_arr nth_splice nth_splice0 seg_splice seg_splice0 splice_splice splice_splice0 length_splice_if
attribute [local go_sem ↓] execOp_box
attribute [local go_sem] box_run nth_arr_u8 put_arr_u8 blk_drewN free_drewN put_drewN blk_raw free_raw
/-! ### Names that have room -/
theorem nodup_sub : ∀ (N G : List (List UInt8)), N.Nodup → (∀ x ∈ N, x ∈ G) → N.length ≤ G.length
  | [], _, _, _ => Nat.zero_le _
  | x :: N, G, hn, hs => by
    rw [List.nodup_cons] at hn
    have hx := hs x List.mem_cons_self
    have h1 := nodup_sub N (G.erase x) hn.2 (fun y hy => (List.mem_erase_of_ne (fun e => hn.1 (by rw [← e]; exact hy))).2 (hs y (List.mem_cons_of_mem _ hy)))
    rw [List.length_erase_of_mem hx] at h1
    have h2 : 0 < G.length := List.length_pos_of_mem hx
    rw [List.length_cons]; omega
theorem look_nodup {N : List (List UInt8)} (h : N.Nodup) {i : Nat} {nm : List UInt8} (hi : N[i]? = some nm) : lookF N nm = (i : Int) := by
  refine lookF_at hi (fun j hj x hx e => ?_)
  subst e
  have hjl := (List.getElem?_eq_some_iff.1 hx).1
  have hil := (List.getElem?_eq_some_iff.1 hi).1
  exact List.pairwise_iff_getElem.1 h j i hjl hil hj ((List.getElem?_eq_some_iff.1 hx).2.trans (List.getElem?_eq_some_iff.1 hi).2.symm)
/-- What is found stays where it is when the table grows. -/
theorem look_pre {N N1 : List (List UInt8)} (hp : N <+: N1) (hn : N1.Nodup) {nm : List UInt8} (h : nm ∈ N) : lookF N1 nm = lookF N nm := by
  obtain ⟨i, hi⟩ := List.getElem?_of_mem h
  obtain ⟨X, rfl⟩ := hp
  have hil := (List.getElem?_eq_some_iff.1 hi).1
  have hn1 : N.Nodup := (List.nodup_append.1 hn).1
  rw [look_nodup hn1 hi, look_nodup hn (i := i) (by rw [List.getElem?_append_left hil]; exact hi)]
/-- The table fits into the list G. -/
structure Fits (G N : List (List UInt8)) : Prop where
  nn : N.Nodup
  sub : ∀ x ∈ N, x ∈ G
theorem internF_fits {G N : List (List UInt8)} (hG : G.length ≤ 256) (h : Fits G N) {nm : List UInt8} (hm : nm ∈ G) : (internF N nm).2.1 = 0 ∧ Fits G (internF N nm).2.2 ∧ N <+: (internF N nm).2.2 ∧ nm ∈ (internF N nm).2.2 ∧ (internF N nm).1 = lookF (internF N nm).2.2 nm := by
  unfold internF
  by_cases e : lookF N nm ≠ -1
  · rw [if_pos e]
    obtain ⟨i, -, hi⟩ := lookF_get e
    exact ⟨rfl, h, List.prefix_refl _, List.mem_of_getElem? hi, rfl⟩
  · rw [if_neg e]
    have hnm := lookF_mem (Decidable.of_not_not e)
    have hlt : N.length < 256 := by
      have h1 := nodup_sub (nm :: N) G (List.nodup_cons.2 ⟨hnm, h.nn⟩) (fun x hx => by
        rcases List.mem_cons.1 hx with h2 | h2
        · rw [h2]; exact hm
        · exact h.sub x h2)
      rw [List.length_cons] at h1
      omega
    rw [if_neg (by omega)]
    have hnd : (N ++ [nm]).Nodup := by
      rw [List.nodup_append]
      exact ⟨h.nn, by simp, fun a h1 b h2 => by rw [List.mem_singleton.1 h2]; intro h9; exact hnm (h9 ▸ h1)⟩
    refine ⟨rfl, ⟨hnd, fun x hx => ?_⟩, List.prefix_append _ _, List.mem_append_right _ List.mem_cons_self, ?_⟩
    · rcases List.mem_append.1 hx with h1 | h1
      · exact h.sub x h1
      · rw [List.mem_singleton.1 h1]; exact hm
    · show (N.length : Int) = lookF (N ++ [nm]) nm
      rw [look_nodup hnd (i := N.length) (by rw [List.getElem?_append_right (Nat.le_refl _), Nat.sub_self]; rfl)]
theorem nmS_fits {G N args : List (List UInt8)} (hG : G.length ≤ 256) (h : Fits G N) (ha : ∀ x ∈ args, x ∈ G) : ∀ n, n ≤ args.length → intCode N args n = 0 ∧ Fits G (nmS N args n) ∧ N <+: nmS N args n ∧ ∀ c, c < n → args.getD c [] ∈ nmS N args n ∧ nmV N args c = lookF (nmS N args n) (args.getD c [])
  | 0, _ => ⟨rfl, h, List.prefix_refl _, fun c hc => by omega⟩
  | n + 1, hn => by
    obtain ⟨h1, h2, h3, h4⟩ := nmS_fits hG h ha n (by omega)
    have hm : args.getD n [] ∈ args := by rw [List.getD_eq_getElem?_getD, List.getElem?_eq_getElem (by omega)]; exact List.getElem_mem _
    obtain ⟨g1, g2, g3, g4, g5⟩ := internF_fits hG h2 (ha _ hm)
    refine ⟨?_, g2, h3.trans g3, fun c hc => ?_⟩
    · unfold intCode
      rw [h1, if_neg (fun e => e rfl)]
      exact g1
    · by_cases e : c = n
      · subst e; exact ⟨g4, g5⟩
      · obtain ⟨k1, k2⟩ := h4 c (by omega)
        exact ⟨g3.subset k1, by rw [k2]; exact (look_pre g3 g2.nn k1).symm⟩
theorem intF_fits {G N args : List (List UInt8)} (hG : G.length ≤ 256) (h : Fits G N) (ha : ∀ x ∈ args, x ∈ G) : (intF N args).1 = 0 ∧ Fits G (intF N args).2.2 := by
  obtain ⟨h1, h2, -, -⟩ := nmS_fits hG h ha args.length (Nat.le_refl _)
  exact ⟨h1, h2⟩
theorem btF_fits {G : List (List UInt8)} (hG : G.length ≤ 256) : ∀ (L : List It) (X : Int × List (List UInt8) × List Change), X.1 = 0 → Fits G X.2.1 → (∀ it ∈ L, it.1 = false → ∀ x ∈ it.2.2, x ∈ G) → (L.foldl btS X).1 = 0
  | [], X, h0, _, _ => h0
  | it :: L, X, h0, hF, hL => by
    rw [List.foldl_cons]
    have hL' : ∀ j ∈ L, j.1 = false → ∀ x ∈ j.2.2, x ∈ G := fun j hj => hL j (List.mem_cons_of_mem _ hj)
    have hb : (btS X it).1 = 0 ∧ Fits G (btS X it).2.1 := by
      unfold btS
      rw [if_neg (fun h => h h0)]
      cases hd : it.1 with
      | true => rw [if_pos rfl]; exact ⟨rfl, hF⟩
      | false =>
        rw [if_neg (by decide)]
        obtain ⟨g1, g2⟩ := intF_fits hG hF (hL it List.mem_cons_self hd)
        rw [if_neg (fun h => h g1)]
        exact ⟨rfl, g2⟩
    exact btF_fits hG L _ hb.1 hb.2 hL'
/-! ### What a request demands -/
theorem demA_in {N : List (List UInt8)} {U : Nat → Int} (X : List (List UInt8) × Nat) (nm : List UInt8) : (∀ x ∈ X.1, x ∈ (demA N U X nm).1) ∧ ((lookF N nm ≠ -1 ∧ 0 < U (lookF N nm).toNat) ∨ nm ∈ (demA N U X nm).1) ∧ ((X.1.filter fun x => decide (lookF N x = -1)).length = X.2 → ((demA N U X nm).1.filter fun x => decide (lookF N x = -1)).length = (demA N U X nm).2) := by
  unfold demA
  by_cases h : (lookF N nm ≠ -1 ∧ 0 < U (lookF N nm).toNat) ∨ nm ∈ X.1
  · rw [if_pos h]; exact ⟨fun _ h => h, h, fun h => h⟩
  · rw [if_neg h]
    refine ⟨fun x hx => List.mem_append_left _ hx, .inr (List.mem_append_right _ List.mem_cons_self), fun h1 => ?_⟩
    dsimp only
    rw [List.filter_append, List.length_append, h1]
    by_cases e : lookF N nm = -1
    · rw [if_pos e]; simp [e]
    · rw [if_neg e]; simp [e]
theorem demI_in {N : List (List UInt8)} {U : Nat → Int} : ∀ (args : List (List UInt8)) (X : List (List UInt8) × Nat), (∀ x ∈ X.1, x ∈ (args.foldl (demA N U) X).1) ∧ (∀ nm ∈ args, (lookF N nm ≠ -1 ∧ 0 < U (lookF N nm).toNat) ∨ nm ∈ (args.foldl (demA N U) X).1) ∧ ((X.1.filter fun x => decide (lookF N x = -1)).length = X.2 → ((args.foldl (demA N U) X).1.filter fun x => decide (lookF N x = -1)).length = (args.foldl (demA N U) X).2)
  | [], X => ⟨fun _ h => h, (fun nm h => by cases h), fun h => h⟩
  | a :: args, X => by
    rw [List.foldl_cons]
    obtain ⟨h1, h2, h3⟩ := demA_in (N := N) (U := U) X a
    obtain ⟨k1, k2, k3⟩ := demI_in (N := N) (U := U) args (demA N U X a)
    refine ⟨fun x hx => k1 x (h1 x hx), fun nm hm => ?_, fun h => k3 (h3 h)⟩
    rcases List.mem_cons.1 hm with e | hm
    · subst e
      rcases h2 with h | h
      · exact .inl h
      · exact .inr (k1 _ h)
    · exact k2 nm hm
theorem demF_in {N : List (List UInt8)} {U : Nat → Int} : ∀ (L : List It) (X : List (List UInt8) × Nat), (∀ x ∈ X.1, x ∈ (L.foldl (demI N U) X).1) ∧ (∀ it ∈ L, it.1 = false → ∀ nm ∈ it.2.2, (lookF N nm ≠ -1 ∧ 0 < U (lookF N nm).toNat) ∨ nm ∈ (L.foldl (demI N U) X).1) ∧ ((X.1.filter fun x => decide (lookF N x = -1)).length = X.2 → ((L.foldl (demI N U) X).1.filter fun x => decide (lookF N x = -1)).length = (L.foldl (demI N U) X).2)
  | [], X => ⟨fun _ h => h, (fun nm h => by cases h), fun h => h⟩
  | it :: L, X => by
    rw [List.foldl_cons]
    obtain ⟨k1, k2, k3⟩ := demF_in (N := N) (U := U) L (demI N U X it)
    have hi : (∀ x ∈ X.1, x ∈ (demI N U X it).1) ∧ (it.1 = false → ∀ nm ∈ it.2.2, (lookF N nm ≠ -1 ∧ 0 < U (lookF N nm).toNat) ∨ nm ∈ (demI N U X it).1) ∧ ((X.1.filter fun x => decide (lookF N x = -1)).length = X.2 → ((demI N U X it).1.filter fun x => decide (lookF N x = -1)).length = (demI N U X it).2) := by
      unfold demI
      cases hd : it.1 with
      | true => rw [if_pos rfl]; exact ⟨fun _ h => h, (fun h => by cases h), fun h => h⟩
      | false =>
        rw [if_neg (by decide)]
        obtain ⟨g1, g2, g3⟩ := demI_in (N := N) (U := U) it.2.2 X
        exact ⟨g1, fun _ => g2, g3⟩
    refine ⟨fun x hx => k1 x (hi.1 x hx), fun j hj hd nm hm => ?_, fun h => k3 (hi.2.2 h)⟩
    rcases List.mem_cons.1 hj with e | hj
    · subst e
      rcases hi.2.1 hd nm hm with h | h
      · exact .inl h
      · exact .inr (k1 _ h)
    · exact k2 j hj hd nm hm
/-! ### The names in use -/
def usedL (t : InsS) : Nat → List (List UInt8)
  | 0 => []
  | n + 1 => usedL t n ++ if 0 < t.U n then [t.N.getD n []] else []
theorem usedL_len (t : InsS) : ∀ n, (usedL t n).length = cntB (fun y => decide (0 < t.U y)) n
  | 0 => rfl
  | n + 1 => by
    unfold usedL cntB
    rw [List.length_append, usedL_len t n]
    by_cases h : 0 < t.U n
    · rw [if_pos h, if_pos (by simpa using h)]; rfl
    · rw [if_neg h, if_neg (by simpa using h)]; rfl
theorem usedL_mem (t : InsS) {y : Nat} (hy : 0 < t.U y) : ∀ n, y < n → t.N.getD y [] ∈ usedL t n
  | 0, h => by omega
  | n + 1, h => by
    unfold usedL
    by_cases e : y = n
    · subst e; rw [if_pos hy]; exact List.mem_append_right _ List.mem_cons_self
    · exact List.mem_append_left _ (usedL_mem t hy n (by omega))
/-- A symbol in use. -/
def UsD (t : InsS) (y : Int) : Prop := 0 ≤ y ∧ 0 < useN t.p (basR t.p t.R) y.toNat ∧ y.toNat < t.N.length
theorem UsD.u {t : InsS} (h : InG t) {y : Int} (hy : UsD t y) : 0 < t.U y.toNat ∧ t.N[y.toNat]? = some (t.N.getD y.toNat []) ∧ y.toNat < 256 := by
  have h1 : y.toNat < 256 := by have := h.nl; have := hy.2.2; omega
  refine ⟨by rw [h.cnt.us _ h1]; have := hy.2.1; omega, ?_, h1⟩
  rw [List.getD_eq_getElem?_getD, List.getElem?_eq_getElem hy.2.2]; rfl
theorem usd_pool {t : InsS} (h : InG t) {y : Int} (hy : InT t.p.pool.length y) : UsD t y := by
  refine ⟨hy.1, ?_, ?_⟩
  · unfold useN; rw [if_pos hy.2]; omega
  · have := h.pre.length_le; have := hy.2; omega
theorem usd_rd {t : InsS} (h : InG t) : RD' t.p (UsD t) t.R := fun q x hx => ⟨fun c hc => ⟨((h.used q x hx).1 c hc).1, ((h.used q x hx).1 c hc).2, ((h.rd q x hx).1 c hc).2⟩, (h.rd q x hx).2⟩
theorem bas_mem {p : PP} {R : List (List Tup)} {q : Nat} {x : Tup} (h : x ∈ rowsAt (basR p R) q) : x ∈ rowsAt R q ∧ q < p.preds.length ∧ (pI p q).base = true := by
  by_cases hq : q < p.preds.length
  · rw [rowsAt_some (basR_at p R hq)] at h
    cases hb : (pI p q).base with
    | true => rw [hb, if_pos rfl] at h; exact ⟨h, hq, rfl⟩
    | false => rw [hb, if_neg (by decide)] at h; cases h
  · exfalso
    unfold rowsAt at h
    rw [List.getD_eq_getElem?_getD, List.getElem?_eq_none (by rw [basR_len]; omega)] at h
    cases h
end Go.Proofs.Qxb6500787aGreat
