import Derived.Test.Qxb6500787aGreatGh
import Derived.Test.Qxb6500787aGreatGa
import Derived.Test.Qxb6500787aGreatGb
import Derived.Test.Qxb6500787aGreatGf

import Derived.StillTailTactics
import Derived.Deep.QuietTactic
import Derived.BigQuiet
import Derived.Deep.RegionHeld
import Derived.Deep.CutRange
import Derived.Laws.ResultCell
import Derived.Laws.Rows
import Derived.DeepKeys
import Derived.DataBytes
import Derived.Laws.StructEq
import Derived.Laws.AppendOwn
import Derived.Laws.MakeOwn
import Derived.Lib.AppendStr
set_option linter.unusedSimpArgs false
set_option linter.unusedVariables false
namespace Go.Proofs.Qxb6500787aGreat
open Go.RowKit Go.Blk
attribute [local go_sem ↓] execOp_load execOp_store execOp_alloc
attribute [local go_sem] Tryz.ld26 Tryz.st26 Tryz.ld27 Tryz.st27 Tryz.ld28 Tryz.st28 Tryz.ld3 Tryz.st3 Tryz.ld29 Tryz.st29 Tryz.ld44 Tryz.st44 Tryz.ld4 Tryz.st4 Tryz.ld50 Tryz.st50 Tryz.ld32 Tryz.st32 Tryz.ld49 Tryz.st49 Tryz.ld68 Tryz.st68 Tryz.ld9 Tryz.st9 Tryz.ld40 Tryz.st40 Tryz.ld138 Tryz.st138 Tryz.ld139 Tryz.st139 Tryz.ld146 Tryz.st146 Tryz.ld183 Tryz.st183 Tryz.ld184 Tryz.st184 Tryz.ld192 Tryz.st192 Tryz.ld195 Tryz.st195 Tryz.ld217 Tryz.st217 Tryz.ld159 Tryz.st159 Tryz.ld142 Tryz.st142 Tryz.ld2 Tryz.st2 Tryz.ld5 Tryz.st5 Tryz.ld12 Tryz.st12 Tryz.ld21 Tryz.st21 Tryz.ld22 Tryz.st22 Tryz.ld24 Tryz.st24 Tryz.ld58 Tryz.st58 Tryz.ld97 Tryz.st97 Tryz.ld101 Tryz.st101 Tryz.ld116 Tryz.st116 Tryz.ld121 Tryz.st121 Tryz.ld135 Tryz.st135 Tryz.ld136 Tryz.st136 Tryz.ld143 Tryz.st143 Tryz.ld148 Tryz.st148 Tryz.ld154 Tryz.st154 Tryz.ld173 Tryz.st173 Tryz.ld187 Tryz.st187 Tryz.ld222 Tryz.st222 Tryz.ld241 Tryz.st241 Tryz.ld248 Tryz.st248 Tryz.ld268 Tryz.st268 Tryz.ld272 Tryz.st272 Tryz.ld153 Tryz.st153 Tryz.ld255 Tryz.st255 Tryz.ld256 Tryz.st256 Tryz.ld129 Tryz.st129 Tryz.ld152 Tryz.st152 Tryz.ld31 Tryz.st31 Tryz.ld46 Tryz.st46 Tryz.ld52 Tryz.st52 Tryz.ld54 Tryz.st54 Tryz.ld60 Tryz.st60 Tryz.ld70 Tryz.st70 Tryz.ld74 Tryz.st74 Tryz.ld93 Tryz.st93 Tryz.ld141 Tryz.st141 Tryz.ld151 Tryz.st151 Tryz.ld170 Tryz.st170 Tryz.ld186 Tryz.st186 Tryz.ld189 Tryz.st189 Tryz.ld194 Tryz.st194 Tryz.ld197 Tryz.st197 Tryz.ld219 Tryz.st219 Tryz.ld224 Tryz.st224 Tryz.ld230 Tryz.st230 Tryz.ld235 Tryz.st235 Tryz.ld243 Tryz.st243 Tryz.ld247 Tryz.st247 Tryz.ld252 Tryz.st252 Tryz.ld258 Tryz.st258 Tryz.al153 Tryz.al255 Tryz.al256 Tryz.al129 Tryz.al152 Tryz.al31 Tryz.al46 Tryz.al52 Tryz.al54 Tryz.al60 Tryz.al70 Tryz.al74 Tryz.al93 Tryz.al141 Tryz.al151 Tryz.al170 Tryz.al186 Tryz.al189 Tryz.al194 Tryz.al197 Tryz.al219 Tryz.al224 Tryz.al230 Tryz.al235 Tryz.al243 Tryz.al247 Tryz.al252 Tryz.al258
attribute [local go_sem] Request.length_enc Request.ok_enc Request.all_get Request.all_set Request.kind_get Request.kind_set Request.blob_get Request.blob_set Request.items_get Request.items_set Request.pred_get Request.pred_set Request.slots_get Request.slots_set Trace.length_enc Trace.ok_enc Trace.all_get Trace.all_set Trace.op_get Trace.op_set Trace.calls_get Trace.calls_set Item.length_enc Item.ok_enc Item.all_get Item.all_set Item.del_get Item.del_set Item.pred_get Item.pred_set Item.args_get Item.args_set Reply.length_enc Reply.ok_enc Reply.all_get Reply.all_set Reply.code_get Reply.code_set Reply.kind_get Reply.kind_set Reply.index_get Reply.index_set Reply.yes_get Reply.yes_set Reply.preds_get Reply.preds_set Reply.rules_get Reply.rules_set Reply.arity_get Reply.arity_set Reply.rows_get Reply.rows_set Reply.fact_get Reply.fact_set Reply.fact_del_get Reply.fact_del_set Reply.fact_pred_get Reply.fact_pred_set Reply.fact_args_get Reply.fact_args_set GEntry.length_enc GEntry.ok_enc GEntry.all_get GEntry.all_set GEntry.seq_get GEntry.seq_set GEntry.kind_get GEntry.kind_set GEntry.code_get GEntry.code_set GOp.length_enc GOp.ok_enc GOp.all_get GOp.all_set GOp.kind_get GOp.kind_set GOp.raw_get GOp.raw_set Reader.length_enc Reader.ok_enc Reader.all_get Reader.all_set Reader.buf_get Reader.buf_set Reader.at__get Reader.at__set Slot.length_enc Slot.ok_enc Slot.all_get Slot.all_set Slot.bound_get Slot.bound_set Slot.name_get Slot.name_set Session.length_enc Session.ok_enc Session.all_get Session.all_set Session.svc_get Session.svc_set Session.buf_get Session.buf_set Session.closed_get Session.closed_set GProgram.length_enc GProgram.ok_enc GProgram.all_get GProgram.all_set GProgram.pool_get GProgram.pool_set GProgram.preds_get GProgram.preds_set GProgram.rules_get GProgram.rules_set GProgram.strata_get GProgram.strata_set PredInfo.length_enc PredInfo.ok_enc PredInfo.all_get PredInfo.all_set PredInfo.arity_get PredInfo.arity_set PredInfo.base_get PredInfo.base_set PredInfo.stratum_get PredInfo.stratum_set Change.length_enc Change.ok_enc Change.all_get Change.all_set Change.del_get Change.del_set Change.pred_get Change.pred_set Change.t_get Change.t_set Store.length_enc Store.ok_enc Store.all_get Store.all_set Store.names_get Store.names_set Store.arity_get Store.arity_set Store.rows_get Store.rows_set Src.length_enc Src.ok_enc Src.all_get Src.all_set Src.b_get Src.b_set Src.at__get Src.at__set Atom.length_enc Atom.ok_enc Atom.all_get Atom.all_set Atom.pred_get Atom.pred_set Atom.args_get Atom.args_set GRule.length_enc GRule.ok_enc GRule.all_get GRule.all_set GRule.head_get GRule.head_set GRule.body_get GRule.body_set GRule.head_pred_get GRule.head_pred_set GRule.head_args_get GRule.head_args_set Cert.length_enc Cert.ok_enc Cert.all_get Cert.all_set Cert.names_get Cert.names_set Cert.nodes_get Cert.nodes_set Fact.length_enc Fact.ok_enc Fact.all_get Fact.all_set Fact.pred_get Fact.pred_set Fact.t_get Fact.t_set Literal.length_enc Literal.ok_enc Literal.all_get Literal.all_set Literal.neg_get Literal.neg_set Literal.atom_get Literal.atom_set Literal.atom_pred_get Literal.atom_pred_set Literal.atom_args_get Literal.atom_args_set Engine.length_enc Engine.ok_enc Engine.all_get Engine.all_set Engine.prog_get Engine.prog_set Engine.st_get Engine.st_set SrcCertm.length_enc SrcCertm.ok_enc SrcCertm.all_get SrcCertm.all_set SrcCertm.b_get SrcCertm.b_set SrcCertm.at__get SrcCertm.at__set GNode.length_enc GNode.ok_enc GNode.all_get GNode.all_set GNode.rule_get GNode.rule_set GNode.pred_get GNode.pred_set GNode.vals_get GNode.vals_set GNode.refs_get GNode.refs_set Term.length_enc Term.ok_enc Term.all_get Term.all_set Term.var_get Term.var_set Term.n_get Term.n_set Env.length_enc Env.ok_enc Env.all_get Env.all_set Env.val_get Env.val_set Env.set_get Env.set_set
attribute [local go_sem] size_put size_ext blk_put free_put blk_alloc free_alloc blk_drew free_drew blk_ext free_ext lookOr_some putOr_some segAt_some cellAt_some storeIn_some put_put put_alloc_new length_arr ok_arr_u8 ok_arr_u32 ok_arr_u64 ok_arr_i64 ok_arr_sl cellsV_agg cellsV_int cellsV_bool cellsV_string cellsV_pointer cellsV_slice cellsV_sl ok_int ok_bool ok_string ok_pointer ok_slice ok_sl toList_arr seg_arr set_arr nth_splice nth_splice0 seg_splice seg_splice0 splice_splice splice_splice0 length_splice_if
attribute [local go_sem ↓] execOp_box
attribute [local go_sem] box_run nth_arr_u8 put_arr_u8 blk_drewN free_drewN put_drewN blk_raw free_raw
/-- Numbers that stand for names. -/
inductive IxOf (K : List (List UInt8)) : List Int → List (List UInt8) → Prop where
  | nil : IxOf K [] []
  | cons (v : Nat) (x : List UInt8) (vs : List Int) (xs : List (List UInt8)) : K[v]? = some x → IxOf K vs xs → IxOf K ((v : Int) :: vs) (x :: xs)
theorem IxOf.mono {K K' : List (List UInt8)} (hK : K <+: K') {vs : List Int} {xs : List (List UInt8)} (h : IxOf K vs xs) : IxOf K' vs xs := by
  induction h with
  | nil => exact .nil
  | cons v x vs xs h1 h2 ih =>
    obtain ⟨X, rfl⟩ := hK
    exact .cons v x vs xs (by rw [List.getElem?_append_left (List.getElem?_eq_some_iff.1 h1).1]; exact h1) ih
theorem IxOf.snoc {K : List (List UInt8)} {vs : List Int} {xs : List (List UInt8)} (h : IxOf K vs xs) {v : Nat} {x : List UInt8} (hv : K[v]? = some x) : IxOf K (vs ++ [(v : Int)]) (xs ++ [x]) := by
  induction h with
  | nil => exact .cons v x [] [] hv .nil
  | cons w y vs xs h1 h2 ih => exact .cons w y _ _ h1 ih
theorem IxOf.nv {K : List (List UInt8)} (N : List (List UInt8)) {vs : List Int} {xs : List (List UInt8)} (h : IxOf K vs xs) : ∀ acc, nvF N K vs acc = some (acc ++ xs.map (lookF N)) := by
  induction h with
  | nil => intro acc; show some acc = _; rw [List.map_nil, List.append_nil]
  | cons v x vs xs h1 h2 ih =>
    intro acc
    have hl := (List.getElem?_eq_some_iff.1 h1).1
    show (if (K.length : Int) ≤ (v : Int) then none else nvF N K vs (acc ++ [lookF N (K.getD (v : Int).toNat [])])) = _
    rw [if_neg (by omega), ih, Int.toNat_natCast, List.getD_eq_getElem?_getD, h1, List.map_cons, List.append_assoc]
    rfl
theorem IxOf.rng {K : List (List UInt8)} {vs : List Int} {xs : List (List UInt8)} (h : IxOf K vs xs) (hK : K.length ≤ 300) : vs.length = xs.length ∧ ∀ v ∈ vs, 0 ≤ v ∧ v ≤ 65535 := by
  induction h with
  | nil => exact ⟨rfl, fun v hv => by cases hv⟩
  | cons v x vs xs h1 h2 ih =>
    have hl := (List.getElem?_eq_some_iff.1 h1).1
    refine ⟨by rw [List.length_cons, List.length_cons, ih.1], fun w hw => ?_⟩
    rcases List.mem_cons.1 hw with rfl | hw
    · omega
    · exact ih.2 w hw
theorem addN_pre (K : List (List UInt8)) (x : List UInt8) : K <+: addN K x := by
  unfold addN
  split
  · exact List.prefix_refl _
  · exact List.prefix_append _ _
theorem addN_at (K : List (List UInt8)) (x : List UInt8) : (addN K x)[(addN K x).idxOf x]? = some x := by
  have hm : x ∈ addN K x := addN_mem.2 (.inr rfl)
  have h1 := List.idxOf_lt_length_iff.2 hm
  rw [List.getElem?_eq_getElem h1, List.getElem_idxOf h1]
theorem va_fold {Nm : List UInt8 → Prop} : ∀ (L K : List (List UInt8)) (vs : List Int) (xs : List (List UInt8)), IxOf K vs xs → K.Nodup → (∀ y ∈ K, Nm y) → (∀ y ∈ L, Nm y) → K <+: (L.foldl vaS (K, vs)).1 ∧ IxOf (L.foldl vaS (K, vs)).1 (L.foldl vaS (K, vs)).2 (xs ++ L) ∧ (L.foldl vaS (K, vs)).1.Nodup ∧ ∀ y ∈ (L.foldl vaS (K, vs)).1, Nm y
  | [], K, vs, xs, h, hn, hk, _ => ⟨List.prefix_refl _, by rw [List.append_nil]; exact h, hn, hk⟩
  | x :: L, K, vs, xs, h, hn, hk, hl => by
    have h1 := va_fold (Nm := Nm) L (addN K x) (vs ++ [(((addN K x).idxOf x : Nat) : Int)]) (xs ++ [x]) ((h.mono (addN_pre K x)).snoc (addN_at K x)) (addN_nd hn) (fun y hy => by
      rcases addN_mem.1 hy with h9 | h9
      · exact hk y h9
      · rw [h9]; exact hl x List.mem_cons_self) (fun y hy => hl y (List.mem_cons_of_mem _ hy))
    refine ⟨(addN_pre K x).trans h1.1, ?_, h1.2.2.1, h1.2.2.2⟩
    have h2 := h1.2.1
    rw [List.append_assoc] at h2
    exact h2
/-- What a node of the certificate says of a step. -/
def NdFor (p : PP) (Lf : NStep → Prop) (Rl : List NStep → NStep → Prop) (K : List (List UInt8)) (bef : List NStep) (d : CNode) (u : NStep) : Prop :=
  ∃ vs, (IxOf K vs u.row ∧ d = ⟨-1, (u.pred : Int), vs, []⟩ ∧ Lf u) ∨ (IxOf K vs u.vals ∧ d = ⟨(u.rule : Int), 0, vs, (bodyOf p u).foldl (rfS p u bef) []⟩ ∧ Rl bef u)
structure CxI (p : PP) (Lf : NStep → Prop) (Rl : List NStep → NStep → Prop) (Nm : List UInt8 → Prop) (X : CC) (D : List NStep) : Prop where
  len : X.2.length = D.length
  nn : X.1.Nodup
  nm : ∀ y ∈ X.1, Nm y
  nd : ∀ (i : Nat) (d : CNode) (u : NStep), X.2[i]? = some d → D[i]? = some u → NdFor p Lf Rl X.1 (D.take i) d u
theorem NdFor.mono {p : PP} {Lf : NStep → Prop} {Rl : List NStep → NStep → Prop} {K K' : List (List UInt8)} (hK : K <+: K') {bef : List NStep} {d : CNode} {u : NStep} (h : NdFor p Lf Rl K bef d u) : NdFor p Lf Rl K' bef d u := by
  obtain ⟨vs, ⟨h1, h2⟩ | ⟨h1, h2⟩⟩ := h
  · exact ⟨vs, .inl ⟨h1.mono hK, h2⟩⟩
  · exact ⟨vs, .inr ⟨h1.mono hK, h2⟩⟩
theorem CxI.snoc {p : PP} {Lf : NStep → Prop} {Rl : List NStep → NStep → Prop} {Nm : List UInt8 → Prop} {X : CC} {D : List NStep} (h : CxI p Lf Rl Nm X D) {K' : List (List UInt8)} (hK : X.1 <+: K') (hn : K'.Nodup) (hm : ∀ y ∈ K', Nm y) {d : CNode} {u : NStep} (hd : NdFor p Lf Rl K' D d u) : CxI p Lf Rl Nm (K', X.2 ++ [d]) (D ++ [u]) := by
  refine ⟨by show (X.2 ++ [d]).length = _; rw [List.length_append, List.length_append, h.len]; rfl, hn, hm, fun i d' u' h1 h2 => ?_⟩
  have hi := (List.getElem?_eq_some_iff.1 h2).1
  rw [List.length_append, List.length_singleton] at hi
  by_cases hl : i < D.length
  · have h1' : (X.2 ++ [d])[i]? = some d' := h1
    rw [List.getElem?_append_left (by rw [h.len]; exact hl)] at h1'
    rw [List.getElem?_append_left hl] at h2
    rw [List.take_append_of_le_length (by omega)]
    exact (h.nd i d' u' h1' h2).mono hK
  · have e : i = D.length := by omega
    subst e
    have h1' : (X.2 ++ [d])[D.length]? = some d' := h1
    rw [← h.len, List.getElem?_append_right (Nat.le_refl _), Nat.sub_self] at h1'
    rw [List.getElem?_append_right (Nat.le_refl _), Nat.sub_self] at h2
    obtain rfl := Option.some.inj h1'
    obtain rfl := Option.some.inj h2
    rw [List.take_append_of_le_length (Nat.le_refl _), List.take_length]
    exact hd
theorem CxI.leaf {p : PP} {Lf : NStep → Prop} {Rl : List NStep → NStep → Prop} {Nm : List UInt8 → Prop} {X : CC} {D : List NStep} (h : CxI p Lf Rl Nm X D) {s : NStep} (hs : Lf s) (hm : ∀ y ∈ s.row, Nm y) : CxI p Lf Rl Nm (leS X s) (D ++ [s]) := by
  obtain ⟨h1, h2, h3, h4⟩ := va_fold (Nm := Nm) s.row X.1 [] [] .nil h.nn h.nm hm
  exact h.snoc h1 h3 h4 ⟨_, .inl ⟨h2, rfl, hs⟩⟩
theorem CxI.rule {p : PP} {Lf : NStep → Prop} {Rl : List NStep → NStep → Prop} {Nm : List UInt8 → Prop} {X : CC × List NStep} (h : CxI p Lf Rl Nm X.1 X.2) {u : NStep} (hs : Rl X.2 u) (hm : ∀ y ∈ u.vals, Nm y) : CxI p Lf Rl Nm (ruS p X u).1 (ruS p X u).2 := by
  obtain ⟨h1, h2, h3, h4⟩ := va_fold (Nm := Nm) u.vals X.1.1 [] [] .nil h.nn h.nm hm
  exact h.snoc h1 h3 h4 ⟨_, .inr ⟨h2, rfl, hs⟩⟩
theorem CxI.leaves {p : PP} {Lf : NStep → Prop} {Rl : List NStep → NStep → Prop} {Nm : List UInt8 → Prop} : ∀ (L : List NStep) {X : CC} {D : List NStep}, CxI p Lf Rl Nm X D → (∀ s ∈ L, Lf s ∧ ∀ y ∈ s.row, Nm y) → CxI p Lf Rl Nm (L.foldl leS X) (D ++ L)
  | [], X, D, h, _ => by rw [List.append_nil]; exact h
  | s :: L, X, D, h, hl => by
    have h1 := CxI.leaves L (h.leaf (hl s List.mem_cons_self).1 (hl s List.mem_cons_self).2) (fun u hu => hl u (List.mem_cons_of_mem _ hu))
    rw [List.append_assoc] at h1
    exact h1
/-- The fact of a step, in the service's symbols. -/
def fcS (N : List (List UInt8)) (u : NStep) : Fact := ⟨(u.pred : Int), mkT (resV N u.row) u.row.length⟩
theorem goK_all {p : PP} {N : List (List UInt8)} {R : List (List Tup)} {K : List (List UInt8)} : ∀ (ds : List CNode) (us pre : List NStep), ds.length = us.length → (∀ (j : Nat) (d : CNode) (u : NStep), ds[j]? = some d → us[j]? = some u → ndF p N R K (pre.length + j) d ((pre ++ us.take j).map (fcS N)) = (0, fcS N u)) → goK p N R K ds pre.length (pre.map (fcS N)) = (0, (pre ++ us).map (fcS N))
  | [], [], pre, _, _ => by show (0, pre.map _) = _; rw [List.append_nil]
  | d :: ds, u :: us, pre, hl, h => by
    have h0 := h 0 d u rfl rfl
    rw [Nat.add_zero, List.take_zero, List.append_nil] at h0
    have h1 := goK_all ds us (pre ++ [u]) (by simpa using hl) (fun j d' u' hd hu => by
      have h9 := h (j + 1) d' u' hd hu
      rw [List.take_succ_cons] at h9
      rw [List.length_append, List.length_singleton, Nat.add_assoc, Nat.add_comm 1 j, List.append_assoc]
      exact h9)
    show (if (ndF p N R K pre.length d (pre.map (fcS N))).1 ≠ 0 then _ else goK p N R K ds (pre.length + 1) (pre.map (fcS N) ++ [(ndF p N R K pre.length d (pre.map (fcS N))).2])) = _
    rw [h0, if_neg (fun e => e rfl)]
    rw [List.length_append, List.length_singleton, List.map_append, List.append_assoc] at h1
    exact h1
theorem mkT_congr {f g : Nat → Int} {n : Nat} (h : ∀ c, c < n → f c = g c) : mkT f n = mkT g n := by
  apply Vector.ext
  intro i hi
  unfold mkT
  rw [Vector.getElem_ofFn, Vector.getElem_ofFn]
  by_cases hc : i < n
  · rw [if_pos hc, if_pos hc, h i hc]
  · rw [if_neg hc, if_neg hc]
theorem look_row (N row : List (List UInt8)) : mkT (fun c => (row.map (lookF N)).getD c 0) (row.map (lookF N)).length = mkT (resV N row) row.length := by
  rw [List.length_map]
  refine mkT_congr fun c hc => ?_
  unfold resV
  rw [List.getD_eq_getElem?_getD, List.getD_eq_getElem?_getD, List.getElem?_map, List.getElem?_eq_getElem hc]
  rfl
theorem inst_row {pool N vals : List (List UInt8)} (hn : N.Nodup) (hp : pool <+: N) {a : PA} (hf : InFit pool vals a) : insT a (vals.map (lookF N)) = mkT (resV N (instF pool vals a)) (instF pool vals a).length ∧ (vals.length = 32 → insOk a (vals.map (lookF N)) = true) := by
  have hl : (instF pool vals a).length = a.args.length := List.length_map ..
  constructor
  · unfold insT
    rw [hl]
    refine mkT_congr fun c hc => ?_
    obtain ⟨f0, f1, f2⟩ := hf c hc
    have ea : (instF pool vals a).getD c [] = vlT pool vals (tA a c) := by
      unfold instF
      rw [List.getD_eq_getElem?_getD, List.getElem?_map, tA_at hc]; rfl
    unfold resV insV
    rw [ea]
    unfold vlT
    cases hv : (tA a c).var with
    | true =>
      have h1 := f1 hv
      rw [if_pos rfl, if_pos rfl, List.getD_eq_getElem?_getD, List.getD_eq_getElem?_getD, List.getElem?_map, List.getElem?_eq_getElem (by omega)]
      rfl
    | false =>
      have h1 := f2 hv
      rw [if_neg (by decide), if_neg (by decide)]
      obtain ⟨X, rfl⟩ := hp
      have h2 : pool.getD (tA a c).n.toNat [] = (pool ++ X).getD (tA a c).n.toNat [] := by
        rw [List.getD_eq_getElem?_getD, List.getD_eq_getElem?_getD, List.getElem?_append_left (by omega)]
      rw [h2, look_at hn ⟨f0, by rw [List.length_append]; omega⟩]
  · intro h32
    unfold insOk
    rw [List.all_eq_true]
    intro t ht
    obtain ⟨c, hc⟩ := List.mem_iff_getElem?.1 ht
    have hcl := (List.getElem?_eq_some_iff.1 hc).1
    have e : t = tA a c := by rw [tA_at hcl] at hc; exact (Option.some.inj hc).symm
    obtain ⟨f0, f1, f2⟩ := hf c hcl
    unfold insO
    rw [e, List.length_map]
    cases hv : (tA a c).var with
    | true => rw [decide_eq_true (f1 hv)]; rfl
    | false => rfl
/-- A leaf that is a fact of the service. -/
def LfO (p : PP) (N : List (List UInt8)) (R : List (List Tup)) (u : NStep) : Prop := u.pred < p.preds.length ∧ (pI p u.pred).base = true ∧ (u.row.length : Int) = (pI p u.pred).arity ∧ mkT (resV N u.row) u.row.length ∈ rowsAt R u.pred
/-- A step whose premises were concluded before. -/
def RlO (p : PP) (N : List (List UInt8)) (R : List (List Tup)) (bef : List NStep) (u : NStep) : Prop := ∃ rr, p.rules[u.rule]? = some rr ∧ u.pred = rr.head.pred ∧ u.vals.length = 32 ∧ u.row = instF p.pool u.vals rr.head ∧ RuFit p.pool rr p.preds.length ∧ (∀ z ∈ rr.body, z.neg = false → ∃ (j : Nat) (v : NStep), bef[j]? = some v ∧ v.pred = z.atom.pred ∧ v.row = instF p.pool u.vals z.atom) ∧ (∀ z ∈ rr.body, z.neg = true → mkT (resV N (instF p.pool u.vals z.atom)) (instF p.pool u.vals z.atom).length ∉ rowsAt R z.atom.pred)
theorem nd_leaf {p : PP} {N : List (List UInt8)} {R : List (List Tup)} {K : List (List UInt8)} {u : NStep} (h : LfO p N R u) {vs : List Int} (hv : IxOf K vs u.row) (i : Nat) (bef : List Fact) : ndF p N R K i ⟨-1, (u.pred : Int), vs, []⟩ bef = (0, fcS N u) := by
  obtain ⟨h1, h2, h3, h4⟩ := h
  unfold ndF
  dsimp only
  rw [hv.nv N []]
  dsimp only
  rw [if_pos (by decide), List.nil_append]
  unfold nlF
  dsimp only
  rw [Int.toNat_natCast, if_neg (by rw [h2]; rintro (e | e); omega; cases e), if_neg (by rw [List.length_map]; exact fun e => e h3), look_row, if_neg (fun e => e h4)]
  rfl
theorem rf_acc {p : PP} {u : NStep} {bef : List NStep} : ∀ (Z : List PL) (acc : List Int), Z.foldl (rfS p u bef) acc = acc ++ Z.foldl (rfS p u bef) []
  | [], acc => by rw [List.foldl_nil, List.foldl_nil, List.append_nil]
  | z :: Z, acc => by
    rw [List.foldl_cons, List.foldl_cons, rf_acc Z, rf_acc Z (rfS p u bef [] z)]
    unfold rfS
    split
    · rfl
    · rw [List.append_assoc]; rfl
theorem nb_ok {p : PP} {N : List (List UInt8)} {R : List (List Tup)} {u : NStep} {bef : List NStep} {refs : List Int} {vals : List Int} : ∀ (Z : List PL) (acc : List Int), refs = acc ++ Z.foldl (rfS p u bef) [] → (∀ z ∈ Z, insOk z.atom vals = true ∧ insT z.atom vals = mkT (resV N (instF p.pool u.vals z.atom)) (instF p.pool u.vals z.atom).length) → (∀ z ∈ Z, z.neg = false → ∃ (j : Nat) (v : NStep), bef[j]? = some v ∧ v.pred = z.atom.pred ∧ v.row = instF p.pool u.vals z.atom) → (∀ z ∈ Z, z.neg = true → mkT (resV N (instF p.pool u.vals z.atom)) (instF p.pool u.vals z.atom).length ∉ rowsAt R z.atom.pred) → nbF R bef.length vals refs (bef.map (fcS N)) Z acc.length = (0, refs.length)
  | [], acc, hr, _, _, _ => by
    rw [List.foldl_nil, List.append_nil] at hr
    rw [hr]; rfl
  | z :: Z, acc, hr, hi, hp, hn => by
    obtain ⟨i1, i2⟩ := hi z List.mem_cons_self
    unfold nbF
    rw [if_neg (by rw [i1]; decide), i2]
    cases hz : z.neg with
    | true =>
      rw [if_pos rfl, if_neg (hn z List.mem_cons_self hz)]
      refine nb_ok Z acc ?_ (fun y hy => hi y (List.mem_cons_of_mem _ hy)) (fun y hy => hp y (List.mem_cons_of_mem _ hy)) (fun y hy => hn y (List.mem_cons_of_mem _ hy))
      rw [hr, List.foldl_cons]
      unfold rfS
      rw [if_pos hz]
    | false =>
      rw [if_neg (by decide)]
      obtain ⟨j, v, hj, hv1, hv2⟩ := hp z List.mem_cons_self hz
      have hr2 : refs = (acc ++ [plcF bef z.atom.pred (instF p.pool u.vals z.atom)]) ++ Z.foldl (rfS p u bef) [] := by
        rw [hr, List.foldl_cons, rf_acc, ← List.append_assoc]
        unfold rfS
        rw [if_neg (by rw [hz]; decide)]
        rfl
      have hg : refs.getD acc.length 0 = plcF bef z.atom.pred (instF p.pool u.vals z.atom) := by
        rw [hr2, List.append_assoc, List.getD_eq_getElem?_getD, List.getElem?_append_right (Nat.le_refl _), Nat.sub_self]; rfl
      have hl : acc.length < refs.length := by
        rw [hr2, List.length_append, List.length_append, List.length_singleton]; omega
      rcases plc_cases bef z.atom.pred (instF p.pool u.vals z.atom) with ⟨-, h9⟩ | ⟨k, w, e1, e2, e3, e4, -⟩
      · exact absurd ⟨hv1, hv2⟩ (h9 j v hj)
      · have hk := (List.getElem?_eq_some_iff.1 e2).1
        rw [hg, e1, Int.toNat_natCast, if_neg (by omega), if_neg (by omega)]
        have eb : (bef.map (fcS N)).getD k Fact.zero = ⟨(z.atom.pred : Int), mkT (resV N (instF p.pool u.vals z.atom)) (instF p.pool u.vals z.atom).length⟩ := by
          rw [List.getD_eq_getElem?_getD, List.getElem?_map, e2]
          show fcS N w = _
          unfold fcS
          rw [e3, e4]
        rw [eb, if_neg (fun e => e rfl)]
        have h8 := nb_ok Z (acc ++ [plcF bef z.atom.pred (instF p.pool u.vals z.atom)]) hr2 (fun y hy => hi y (List.mem_cons_of_mem _ hy)) (fun y hy => hp y (List.mem_cons_of_mem _ hy)) (fun y hy => hn y (List.mem_cons_of_mem _ hy))
        rw [List.length_append, List.length_singleton] at h8
        exact h8
theorem nd_rule {p : PP} {N : List (List UInt8)} (hn : N.Nodup) (hpre : p.pool <+: N) {R : List (List Tup)} {K : List (List UInt8)} {bef : List NStep} {u : NStep} (h : RlO p N R bef u) {vs : List Int} (hv : IxOf K vs u.vals) : ndF p N R K bef.length ⟨(u.rule : Int), 0, vs, (bodyOf p u).foldl (rfS p u bef) []⟩ (bef.map (fcS N)) = (0, fcS N u) := by
  obtain ⟨rr, h1, h2, h3, h4, h5, h6, h7⟩ := h
  have hrl := (List.getElem?_eq_some_iff.1 h1).1
  have eg : p.rules.getD u.rule ⟨⟨0, []⟩, []⟩ = rr := by rw [List.getD_eq_getElem?_getD, h1]; rfl
  have eb : bodyOf p u = rr.body := by unfold bodyOf; rw [eg]
  have hat : ∀ a ∈ atomsOf rr, insOk a (u.vals.map (lookF N)) = true ∧ insT a (u.vals.map (lookF N)) = mkT (resV N (instF p.pool u.vals a)) (instF p.pool u.vals a).length := fun a ha => by
    have h9 := inst_row (N := N) hn hpre (h5.fit h3 ha)
    exact ⟨h9.2 h3, h9.1⟩
  have hb := nb_ok (p := p) (N := N) (R := R) (u := u) (bef := bef) (refs := rr.body.foldl (rfS p u bef) []) (vals := u.vals.map (lookF N)) rr.body [] (by rw [List.nil_append]) (fun z hz => hat z.atom (List.mem_cons_of_mem _ (List.mem_map.2 ⟨z, hz, rfl⟩))) h6 h7
  rw [List.length_nil] at hb
  unfold ndF
  dsimp only
  rw [hv.nv N []]
  dsimp only
  rw [if_neg (by omega), List.nil_append]
  unfold nrF
  dsimp only
  rw [Int.toNat_natCast, eg, eb, hb, if_neg (by omega), if_neg (fun e => e rfl), if_neg (by rw [(hat rr.head List.mem_cons_self).1]; rintro (e | e); cases e; exact e rfl), (hat rr.head List.mem_cons_self).2]
  unfold fcS
  rw [h2, h4]
theorem CxI.check {p : PP} {N : List (List UInt8)} (hn : N.Nodup) (hpre : p.pool <+: N) {R : List (List Tup)} {Nm : List UInt8 → Prop} {X : CC} {D : List NStep} (h : CxI p (LfO p N R) (RlO p N R) Nm X D) : goK p N R X.1 X.2 0 [] = (0, D.map (fcS N)) := by
  refine goK_all X.2 D [] h.len (fun j d u hd hu => ?_)
  rw [List.nil_append, List.length_nil, Nat.zero_add]
  have hj := (List.getElem?_eq_some_iff.1 hu).1
  have hl : (D.take j).length = j := by rw [List.length_take]; omega
  obtain ⟨vs, ⟨h1, rfl, h2⟩ | ⟨h1, rfl, h2⟩⟩ := h.nd j d u hd hu
  · exact nd_leaf h2 h1 _ _
  · have h9 := nd_rule hn hpre h2 h1
    rw [hl] at h9
    exact h9
end Go.Proofs.Qxb6500787aGreat
