
import Derived.Test.Qxb6500787aGreatZr
import Derived.StillTailTactics
import Derived.Deep.QuietTactic
import Derived.BigQuiet
import Derived.Deep.RegionHeld
import Derived.Deep.CutRange
import Derived.Laws.ResultCell
import Derived.Laws.Rows
import Derived.DeepKeys
import Derived.DataBytes
import Derived.Laws.StructEq
import Derived.Laws.AppendOwn
import Derived.Laws.MakeOwn
import Derived.Lib.AppendStr
set_option linter.unusedSimpArgs false
set_option linter.unusedVariables false
namespace Go.Proofs.Qxb6500787aGreat
open Go.RowKit Go.Blk
attribute [local go_sem ↓] execOp_load execOp_store execOp_alloc
attribute [local go_sem] Tryz.ld26 Tryz.st26 Tryz.ld27 Tryz.st27 Tryz.ld28 Tryz.st28 Tryz.ld3 Tryz.st3 Tryz.ld29 Tryz.st29 Tryz.ld44 Tryz.st44 Tryz.ld4 Tryz.st4 Tryz.ld50 Tryz.st50 Tryz.ld32 Tryz.st32 Tryz.ld49 Tryz.st49 Tryz.ld68 Tryz.st68 Tryz.ld9 Tryz.st9 Tryz.ld40 Tryz.st40 Tryz.ld138 Tryz.st138 Tryz.ld139 Tryz.st139 Tryz.ld146 Tryz.st146 Tryz.ld183 Tryz.st183 Tryz.ld184 Tryz.st184 Tryz.ld192 Tryz.st192 Tryz.ld195 Tryz.st195 Tryz.ld217 Tryz.st217 Tryz.ld159 Tryz.st159 Tryz.ld142 Tryz.st142 Tryz.ld2 Tryz.st2 Tryz.ld5 Tryz.st5 Tryz.ld12 Tryz.st12 Tryz.ld21 Tryz.st21 Tryz.ld22 Tryz.st22 Tryz.ld24 Tryz.st24 Tryz.ld58 Tryz.st58 Tryz.ld97 Tryz.st97 Tryz.ld101 Tryz.st101 Tryz.ld116 Tryz.st116 Tryz.ld121 Tryz.st121 Tryz.ld135 Tryz.st135 Tryz.ld136 Tryz.st136 Tryz.ld143 Tryz.st143 Tryz.ld148 Tryz.st148 Tryz.ld154 Tryz.st154 Tryz.ld173 Tryz.st173 Tryz.ld187 Tryz.st187 Tryz.ld222 Tryz.st222 Tryz.ld241 Tryz.st241 Tryz.ld248 Tryz.st248 Tryz.ld268 Tryz.st268 Tryz.ld272 Tryz.st272 Tryz.ld153 Tryz.st153 Tryz.ld255 Tryz.st255 Tryz.ld256 Tryz.st256 Tryz.ld129 Tryz.st129 Tryz.ld152 Tryz.st152 Tryz.ld31 Tryz.st31 Tryz.ld46 Tryz.st46 Tryz.ld52 Tryz.st52 Tryz.ld54 Tryz.st54 Tryz.ld60 Tryz.st60 Tryz.ld70 Tryz.st70 Tryz.ld74 Tryz.st74 Tryz.ld93 Tryz.st93 Tryz.ld141 Tryz.st141 Tryz.ld151 Tryz.st151 Tryz.ld170 Tryz.st170 Tryz.ld186 Tryz.st186 Tryz.ld189 Tryz.st189 Tryz.ld194 Tryz.st194 Tryz.ld197 Tryz.st197 Tryz.ld219 Tryz.st219 Tryz.ld224 Tryz.st224 Tryz.ld230 Tryz.st230 Tryz.ld235 Tryz.st235 Tryz.ld243 Tryz.st243 Tryz.ld247 Tryz.st247 Tryz.ld252 Tryz.st252 Tryz.ld258 Tryz.st258 Tryz.al153 Tryz.al255 Tryz.al256 Tryz.al129 Tryz.al152 Tryz.al31 Tryz.al46 Tryz.al52 Tryz.al54 Tryz.al60 Tryz.al70 Tryz.al74 Tryz.al93 Tryz.al141 Tryz.al151 Tryz.al170 Tryz.al186 Tryz.al189 Tryz.al194 Tryz.al197 Tryz.al219 Tryz.al224 Tryz.al230 Tryz.al235 Tryz.al243 Tryz.al247 Tryz.al252 Tryz.al258
attribute [local go_sem] Request.length_enc Request.ok_enc Request.all_get Request.all_set Request.kind_get Request.kind_set Request.blob_get Request.blob_set Request.items_get Request.items_set Request.pred_get Request.pred_set Request.slots_get Request.slots_set Trace.length_enc Trace.ok_enc Trace.all_get Trace.all_set Trace.op_get Trace.op_set Trace.calls_get Trace.calls_set Item.length_enc Item.ok_enc Item.all_get Item.all_set Item.del_get Item.del_set Item.pred_get Item.pred_set Item.args_get Item.args_set Reply.length_enc Reply.ok_enc Reply.all_get Reply.all_set Reply.code_get Reply.code_set Reply.kind_get Reply.kind_set Reply.index_get Reply.index_set Reply.yes_get Reply.yes_set Reply.preds_get Reply.preds_set Reply.rules_get Reply.rules_set Reply.arity_get Reply.arity_set Reply.rows_get Reply.rows_set Reply.fact_get Reply.fact_set Reply.fact_del_get Reply.fact_del_set Reply.fact_pred_get Reply.fact_pred_set Reply.fact_args_get Reply.fact_args_set GEntry.length_enc GEntry.ok_enc GEntry.all_get GEntry.all_set GEntry.seq_get GEntry.seq_set GEntry.kind_get GEntry.kind_set GEntry.code_get GEntry.code_set GOp.length_enc GOp.ok_enc GOp.all_get GOp.all_set GOp.kind_get GOp.kind_set GOp.raw_get GOp.raw_set Reader.length_enc Reader.ok_enc Reader.all_get Reader.all_set Reader.buf_get Reader.buf_set Reader.at__get Reader.at__set Slot.length_enc Slot.ok_enc Slot.all_get Slot.all_set Slot.bound_get Slot.bound_set Slot.name_get Slot.name_set Session.length_enc Session.ok_enc Session.all_get Session.all_set Session.svc_get Session.svc_set Session.buf_get Session.buf_set Session.closed_get Session.closed_set GProgram.length_enc GProgram.ok_enc GProgram.all_get GProgram.all_set GProgram.pool_get GProgram.pool_set GProgram.preds_get GProgram.preds_set GProgram.rules_get GProgram.rules_set GProgram.strata_get GProgram.strata_set PredInfo.length_enc PredInfo.ok_enc PredInfo.all_get PredInfo.all_set PredInfo.arity_get PredInfo.arity_set PredInfo.base_get PredInfo.base_set PredInfo.stratum_get PredInfo.stratum_set Change.length_enc Change.ok_enc Change.all_get Change.all_set Change.del_get Change.del_set Change.pred_get Change.pred_set Change.t_get Change.t_set Store.length_enc Store.ok_enc Store.all_get Store.all_set Store.names_get Store.names_set Store.arity_get Store.arity_set Store.rows_get Store.rows_set Src.length_enc Src.ok_enc Src.all_get Src.all_set Src.b_get Src.b_set Src.at__get Src.at__set Atom.length_enc Atom.ok_enc Atom.all_get Atom.all_set Atom.pred_get Atom.pred_set Atom.args_get Atom.args_set GRule.length_enc GRule.ok_enc GRule.all_get GRule.all_set GRule.head_get GRule.head_set GRule.body_get GRule.body_set GRule.head_pred_get GRule.head_pred_set GRule.head_args_get GRule.head_args_set Cert.length_enc Cert.ok_enc Cert.all_get Cert.all_set Cert.names_get Cert.names_set Cert.nodes_get Cert.nodes_set Fact.length_enc Fact.ok_enc Fact.all_get Fact.all_set Fact.pred_get Fact.pred_set Fact.t_get Fact.t_set Literal.length_enc Literal.ok_enc Literal.all_get Literal.all_set Literal.neg_get Literal.neg_set Literal.atom_get Literal.atom_set Literal.atom_pred_get Literal.atom_pred_set Literal.atom_args_get Literal.atom_args_set Engine.length_enc Engine.ok_enc Engine.all_get Engine.all_set Engine.prog_get Engine.prog_set Engine.st_get Engine.st_set SrcCertm.length_enc SrcCertm.ok_enc SrcCertm.all_get SrcCertm.all_set SrcCertm.b_get SrcCertm.b_set SrcCertm.at__get SrcCertm.at__set GNode.length_enc GNode.ok_enc GNode.all_get GNode.all_set GNode.rule_get GNode.rule_set GNode.pred_get GNode.pred_set GNode.vals_get GNode.vals_set GNode.refs_get GNode.refs_set Term.length_enc Term.ok_enc Term.all_get Term.all_set Term.var_get Term.var_set Term.n_get Term.n_set Env.length_enc Env.ok_enc Env.all_get Env.all_set Env.val_get Env.val_set Env.set_get Env.set_set
attribute [local go_sem] size_put size_ext blk_put free_put blk_alloc free_alloc blk_drew free_drew blk_ext free_ext lookOr_some putOr_some segAt_some cellAt_some storeIn_some put_put put_alloc_new length_arr ok_arr_u8 ok_arr_u32 ok_arr_u64 ok_arr_i64 ok_arr_sl cellsV_agg cellsV_int cellsV_bool cellsV_string cellsV_pointer cellsV_slice cellsV_sl ok_int ok_bool ok_string ok_pointer ok_slice ok_sl toList_arr seg_arr set_arr nth_splice nth_splice0 seg_splice seg_splice0 splice_splice splice_splice0 length_splice_if
attribute [local go_sem ↓] execOp_box
attribute [local go_sem] box_run nth_arr_u8 put_arr_u8 blk_drewN free_drewN put_drewN blk_raw free_raw
/-! ### Requests told by names -/
theorem names_eq {N args : List (List UInt8)} {x : Tup} {ar : Nat} (hl : args.length = ar) (h : ∀ c, c < ar → N.getD (tg x c).toNat [] = args.getD c []) : nmsT N x ar = args := by
  apply List.ext_getElem?
  intro c
  by_cases hc : c < ar
  · rw [nmsT_at N x hc, h c hc]
    exact (getD_at (by omega)).symm
  · rw [List.getElem?_eq_none (by rw [nmsT_len]; omega), List.getElem?_eq_none (by omega)]
theorem res_known {p : PP} {q : Nat} {N args : List (List UInt8)} (hl : args.length = arP p q) (h4 : arP p q ≤ 4) (hk : ∀ c, c < arP p q → args.getD c [] ∈ N) : TD p (InT N.length) q (mkT (resV N args) args.length) ∧ nmsT N (mkT (resV N args) args.length) (arP p q) = args := by
  have hv : ∀ c, c < arP p q → InT N.length (tg (mkT (resV N args) args.length) c) ∧ N.getD (tg (mkT (resV N args) args.length) c).toNat [] = args.getD c [] := fun c hc => by
    rw [tg_mkT _ _ _ (by omega), if_pos (by omega)]
    obtain ⟨i, e1, e2⟩ := lookF_get (lookF_in (hk c hc))
    have hil := (List.getElem?_eq_some_iff.1 e2).1
    unfold resV
    rw [e1, Int.toNat_natCast]
    exact ⟨⟨by omega, by rw [Int.toNat_natCast]; exact hil⟩, by rw [List.getD_eq_getElem?_getD, e2]; rfl⟩
  refine ⟨⟨fun c hc => (hv c hc).1, fun c h1 h2 => ?_⟩, names_eq hl (fun c hc => (hv c hc).2)⟩
  rw [tg_mkT _ _ _ h2, if_neg (by omega)]
theorem res_back {p : PP} {q : Nat} {N args : List (List UInt8)} (hl : args.length = arP p q) (h4 : arP p q ≤ 4) (h : TD p (InT N.length) q (mkT (resV N args) args.length)) : ∀ c, c < arP p q → args.getD c [] ∈ N := fun c hc => by
  have h1 := (h.1 c hc).1
  rw [tg_mkT _ _ _ (by omega), if_pos (by omega)] at h1
  have h2 : lookF N (args.getD c []) ≠ -1 := by
    intro e
    unfold resV at h1
    omega
  obtain ⟨i, -, e2⟩ := lookF_get h2
  exact List.mem_of_getElem? e2
theorem int_named {p : PP} {q : Nat} {G N args : List (List UInt8)} (hG : G.length ≤ 256) (hF : Fits G N) (ha : ∀ x ∈ args, x ∈ G) (hN : NmOk N) (hNl : N.length ≤ 256) (h64 : ∀ x ∈ args, x.length ≤ 64) (hl : args.length = arP p q) (h4 : arP p q ≤ 4) : TD p (InT (intF N args).2.2.length) q (intF N args).2.1 ∧ nmsT (intF N args).2.2 (intF N args).2.1 (arP p q) = args ∧ (intF N args).1 = 0 ∧ Fits G (intF N args).2.2 ∧ NEx N (intF N args).2.2 := by
  obtain ⟨g1, g2, g3, g4⟩ := nmS_fits hG hF ha args.length (Nat.le_refl _)
  have h0 : (intF N args).1 = 0 := g1
  refine ⟨intF_td hN hNl h64 hl h0, names_eq hl (fun c hc => ?_), h0, g2, intF_ex hN hNl h64⟩
  have ex : (intF N args).2.1 = mkT (nmV N args) args.length := by unfold intF; rw [if_pos g1]
  rw [ex, tg_mkT _ _ _ (by omega), if_pos (by omega)]
  obtain ⟨k1, k2⟩ := g4 c (by omega)
  rw [k2]
  obtain ⟨i, e1, e2⟩ := lookF_get (lookF_in k1)
  show (nmS N args args.length).getD _ [] = _
  rw [e1, Int.toNat_natCast, List.getD_eq_getElem?_getD, e2]; rfl
/-- The changes of a batch, one by one. -/
def btG : List (List UInt8) → List It → List Change
  | _, [] => []
  | N, it :: L => if it.1 then ⟨true, it.2.1, mkT (resV N it.2.2) it.2.2.length⟩ :: btG N L else ⟨false, it.2.1, (intF N it.2.2).2.1⟩ :: btG (intF N it.2.2).2.2 L
def btN : List (List UInt8) → List It → List (List UInt8)
  | N, [] => N
  | N, it :: L => if it.1 then btN N L else btN (intF N it.2.2).2.2 L
theorem btS_G : ∀ (L : List It) (N : List (List UInt8)) (acc : List Change), (L.foldl btS (0, N, acc)).1 = 0 → L.foldl btS (0, N, acc) = (0, btN N L, acc ++ btG N L)
  | [], N, acc, _ => by show (0, N, acc) = (0, N, acc ++ []); rw [List.append_nil]
  | it :: L, N, acc, h => by
    rw [List.foldl_cons] at h ⊢
    unfold btN btG
    cases hd : it.1 with
    | true =>
      have e : btS (0, N, acc) it = (0, N, acc ++ [⟨true, it.2.1, mkT (resV N it.2.2) it.2.2.length⟩]) := by
        unfold btS
        rw [if_neg (fun h => h rfl), hd, if_pos rfl]
      rw [e] at h ⊢
      rw [btS_G L _ _ h, if_pos rfl, if_pos rfl, List.append_assoc]; rfl
    | false =>
      by_cases hi : (intF N it.2.2).1 ≠ 0
      · have e : btS (0, N, acc) it = ((intF N it.2.2).1, (intF N it.2.2).2.2, acc) := by
          unfold btS
          rw [if_neg (fun h => h rfl), hd, if_neg (by decide), if_pos hi]
        rw [e, bts_stop L _ hi] at h
        exact absurd h hi
      · have e : btS (0, N, acc) it = (0, (intF N it.2.2).2.2, acc ++ [⟨false, it.2.1, (intF N it.2.2).2.1⟩]) := by
          unfold btS
          rw [if_neg (fun h => h rfl), hd, if_neg (by decide), if_neg hi]
        rw [e] at h ⊢
        rw [btS_G L _ _ h, if_neg (by decide), if_neg (by decide), List.append_assoc]; rfl
/-- An item that fits the policy. -/
structure ItF (p : PP) (n : Nat) (it : It) : Prop where
  pr : 0 ≤ it.2.1
  lt : it.2.1.toNat < n
  ln : it.2.2.length = arP p it.2.1.toNat
  sm : ∀ x ∈ it.2.2, x.length ≤ 64
theorem bt_sim {p : PP} {G G' : List (List UInt8)} (hG : G.length ≤ 256) (hG' : G'.length ≤ 256) : ∀ (L : List It) (N N' : List (List UInt8)) (B B' : List (List Tup)) (i j : Nat), Corr p N N' B B' → Fits G N → Fits G' N' → NmOk N → NmOk N' → (∀ it ∈ L, ItF p B.length it ∧ (it.1 = false → (∀ x ∈ it.2.2, x ∈ G) ∧ ∀ x ∈ it.2.2, x ∈ G')) → (chgs (btG N L) i B).1 = 0 → (chgs (btG N' L) j B').1 = 0 ∧ Corr p (btN N L) (btN N' L) (chgs (btG N L) i B).2.2 (chgs (btG N' L) j B').2.2
  | [], N, N', B, B', i, j, hC, _, _, _, _, _, _ => ⟨rfl, hC⟩
  | it :: L, N, N', B, B', i, j, hC, hF, hF', hN, hN', hL, h0 => by
    obtain ⟨hit, hin⟩ := hL it List.mem_cons_self
    have hL' : ∀ k ∈ L, ItF p B.length k ∧ (k.1 = false → (∀ x ∈ k.2.2, x ∈ G) ∧ ∀ x ∈ k.2.2, x ∈ G') := fun k hk => hL k (List.mem_cons_of_mem _ hk)
    have hNl : N.length ≤ 256 := Nat.le_trans (nodup_sub N G hF.nn hF.sub) hG
    have hNl' : N'.length ≤ 256 := Nat.le_trans (nodup_sub N' G' hF'.nn hF'.sub) hG'
    obtain ⟨q, hq⟩ : ∃ q : Nat, it.2.1 = (q : Int) := ⟨it.2.1.toNat, by have := hit.pr; omega⟩
    have hqt : it.2.1.toNat = q := by rw [hq]; exact Int.toNat_natCast _
    have hql := hit.lt
    have hln := hit.ln
    rw [hqt] at hql hln
    have h4 := hC.ar q
    unfold btG btN at *
    cases hd : it.1 with
    | true =>
      rw [hd, if_pos rfl] at h0
      rw [if_pos rfl, if_pos rfl, if_pos rfl, if_pos rfl]
      rw [hq] at h0 ⊢
      unfold chgs at h0 ⊢
      by_cases e : (changeF B ⟨true, (q : Int), mkT (resV N it.2.2) it.2.2.length⟩).1 ≠ 0
      · rw [if_pos e] at h0; exact absurd h0 e
      · rw [if_neg e] at h0
        obtain ⟨k1, k2⟩ := hC.del hql (x := mkT (resV N it.2.2) it.2.2.length) (x' := mkT (resV N' it.2.2) it.2.2.length) (fun hm => by
          have htd := hC.a.td q _ hm
          have hk := res_back hln h4 htd
          have e1 := (res_known hln h4 hk).2
          have hm2 : it.2.2 ∈ nmB p N' B' q := by
            rw [← hC.nm q, ← e1]
            exact List.mem_map.2 ⟨_, hm, rfl⟩
          unfold nmB at hm2
          obtain ⟨y, hy, e2⟩ := List.mem_map.1 hm2
          have hk' : ∀ c, c < arP p q → it.2.2.getD c [] ∈ N' := fun c hc => by
            rw [← e2, nmsT_get _ _ hc]
            exact List.mem_of_getElem? (getD_at ((hC.b.td q y hy).1 c hc).2)
          obtain ⟨r1, r2⟩ := res_known hln h4 hk'
          exact ⟨r1, e1.trans r2.symm⟩) (Decidable.of_not_not e)
        rw [if_neg e, if_neg (fun h => h k1)]
        exact bt_sim hG hG' L N N' _ _ _ _ k2 hF hF' hN hN' (fun k hk => by rw [changeF_len]; exact hL' k hk) h0
    | false =>
      rw [hd, if_neg (by decide)] at h0
      rw [if_neg (by decide), if_neg (by decide), if_neg (by decide), if_neg (by decide)]
      rw [hq] at h0 ⊢
      obtain ⟨a1, a2⟩ := hin hd
      obtain ⟨u1, u2, u3, u4, u5⟩ := int_named (p := p) (q := q) hG hF a1 hN hNl hit.sm hln h4
      obtain ⟨v1, v2, v3, v4, v5⟩ := int_named (p := p) (q := q) hG' hF' a2 hN' hNl' hit.sm hln h4
      unfold chgs at h0 ⊢
      by_cases e : (changeF B ⟨false, (q : Int), (intF N it.2.2).2.1⟩).1 ≠ 0
      · rw [if_pos e] at h0; exact absurd h0 e
      · rw [if_neg e] at h0
        obtain ⟨k1, k2⟩ := (hC.ext u5 v5).ins hql u1 v1 (u2.trans v2.symm) (Decidable.of_not_not e)
        rw [if_neg e, if_neg (fun h => h k1)]
        exact bt_sim hG hG' L _ _ _ _ _ _ k2 u4 v4 u5.nn v5.nn (fun k hk => by rw [changeF_len]; exact hL' k hk) h0
end Go.Proofs.Qxb6500787aGreat
