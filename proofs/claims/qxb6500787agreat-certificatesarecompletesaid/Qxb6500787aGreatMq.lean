import Derived.Test.Qxb6500787aGreatMp

import Derived.StillTailTactics
import Derived.Deep.QuietTactic
import Derived.BigQuiet
import Derived.Deep.RegionHeld
import Derived.Deep.CutRange
import Derived.Laws.ResultCell
import Derived.Laws.Rows
import Derived.DeepKeys
import Derived.DataBytes
import Derived.Laws.StructEq
import Derived.Laws.AppendOwn
import Derived.Laws.MakeOwn
import Derived.Lib.AppendStr
set_option linter.unusedSimpArgs false
set_option linter.unusedVariables false
namespace Go.Proofs.Qxb6500787aGreat
open Go.RowKit Go.Blk
attribute [local go_sem ↓] execOp_load execOp_store execOp_alloc
attribute [local go_sem] Tryz.ld26 Tryz.st26 Tryz.ld27 Tryz.st27 Tryz.ld28 Tryz.st28 Tryz.ld3 Tryz.st3 Tryz.ld29 Tryz.st29 Tryz.ld44 Tryz.st44 Tryz.ld4 Tryz.st4 Tryz.ld50 Tryz.st50 Tryz.ld32 Tryz.st32 Tryz.ld49 Tryz.st49 Tryz.ld68 Tryz.st68 Tryz.ld9 Tryz.st9 Tryz.ld40 Tryz.st40 Tryz.ld138 Tryz.st138 Tryz.ld139 Tryz.st139 Tryz.ld146 Tryz.st146 Tryz.ld183 Tryz.st183 Tryz.ld184 Tryz.st184 Tryz.ld192 Tryz.st192 Tryz.ld195 Tryz.st195 Tryz.ld217 Tryz.st217 Tryz.ld159 Tryz.st159 Tryz.ld142 Tryz.st142 Tryz.ld2 Tryz.st2 Tryz.ld5 Tryz.st5 Tryz.ld12 Tryz.st12 Tryz.ld21 Tryz.st21 Tryz.ld22 Tryz.st22 Tryz.ld24 Tryz.st24 Tryz.ld58 Tryz.st58 Tryz.ld97 Tryz.st97 Tryz.ld101 Tryz.st101 Tryz.ld116 Tryz.st116 Tryz.ld121 Tryz.st121 Tryz.ld135 Tryz.st135 Tryz.ld136 Tryz.st136 Tryz.ld143 Tryz.st143 Tryz.ld148 Tryz.st148 Tryz.ld154 Tryz.st154 Tryz.ld173 Tryz.st173 Tryz.ld187 Tryz.st187 Tryz.ld222 Tryz.st222 Tryz.ld241 Tryz.st241 Tryz.ld248 Tryz.st248 Tryz.ld268 Tryz.st268 Tryz.ld272 Tryz.st272 Tryz.ld153 Tryz.st153 Tryz.ld255 Tryz.st255 Tryz.ld256 Tryz.st256 Tryz.ld129 Tryz.st129 Tryz.ld152 Tryz.st152 Tryz.ld31 Tryz.st31 Tryz.ld46 Tryz.st46 Tryz.ld52 Tryz.st52 Tryz.ld54 Tryz.st54 Tryz.ld60 Tryz.st60 Tryz.ld70 Tryz.st70 Tryz.ld74 Tryz.st74 Tryz.ld93 Tryz.st93 Tryz.ld141 Tryz.st141 Tryz.ld151 Tryz.st151 Tryz.ld170 Tryz.st170 Tryz.ld186 Tryz.st186 Tryz.ld189 Tryz.st189 Tryz.ld194 Tryz.st194 Tryz.ld197 Tryz.st197 Tryz.ld219 Tryz.st219 Tryz.ld224 Tryz.st224 Tryz.ld230 Tryz.st230 Tryz.ld235 Tryz.st235 Tryz.ld243 Tryz.st243 Tryz.ld247 Tryz.st247 Tryz.ld252 Tryz.st252 Tryz.ld258 Tryz.st258 Tryz.al153 Tryz.al255 Tryz.al256 Tryz.al129 Tryz.al152 Tryz.al31 Tryz.al46 Tryz.al52 Tryz.al54 Tryz.al60 Tryz.al70 Tryz.al74 Tryz.al93 Tryz.al141 Tryz.al151 Tryz.al170 Tryz.al186 Tryz.al189 Tryz.al194 Tryz.al197 Tryz.al219 Tryz.al224 Tryz.al230 Tryz.al235 Tryz.al243 Tryz.al247 Tryz.al252 Tryz.al258
attribute [local go_sem] Request.length_enc Request.ok_enc Request.all_get Request.all_set Request.kind_get Request.kind_set Request.blob_get Request.blob_set Request.items_get Request.items_set Request.pred_get Request.pred_set Request.slots_get Request.slots_set Trace.length_enc Trace.ok_enc Trace.all_get Trace.all_set Trace.op_get Trace.op_set Trace.calls_get Trace.calls_set Item.length_enc Item.ok_enc Item.all_get Item.all_set Item.del_get Item.del_set Item.pred_get Item.pred_set Item.args_get Item.args_set Reply.length_enc Reply.ok_enc Reply.all_get Reply.all_set Reply.code_get Reply.code_set Reply.kind_get Reply.kind_set Reply.index_get Reply.index_set Reply.yes_get Reply.yes_set Reply.preds_get Reply.preds_set Reply.rules_get Reply.rules_set Reply.arity_get Reply.arity_set Reply.rows_get Reply.rows_set Reply.fact_get Reply.fact_set Reply.fact_del_get Reply.fact_del_set Reply.fact_pred_get Reply.fact_pred_set Reply.fact_args_get Reply.fact_args_set GEntry.length_enc GEntry.ok_enc GEntry.all_get GEntry.all_set GEntry.seq_get GEntry.seq_set GEntry.kind_get GEntry.kind_set GEntry.code_get GEntry.code_set GOp.length_enc GOp.ok_enc GOp.all_get GOp.all_set GOp.kind_get GOp.kind_set GOp.raw_get GOp.raw_set Reader.length_enc Reader.ok_enc Reader.all_get Reader.all_set Reader.buf_get Reader.buf_set Reader.at__get Reader.at__set Slot.length_enc Slot.ok_enc Slot.all_get Slot.all_set Slot.bound_get Slot.bound_set Slot.name_get Slot.name_set Session.length_enc Session.ok_enc Session.all_get Session.all_set Session.svc_get Session.svc_set Session.buf_get Session.buf_set Session.closed_get Session.closed_set GProgram.length_enc GProgram.ok_enc GProgram.all_get GProgram.all_set GProgram.pool_get GProgram.pool_set GProgram.preds_get GProgram.preds_set GProgram.rules_get GProgram.rules_set GProgram.strata_get GProgram.strata_set PredInfo.length_enc PredInfo.ok_enc PredInfo.all_get PredInfo.all_set PredInfo.arity_get PredInfo.arity_set PredInfo.base_get PredInfo.base_set PredInfo.stratum_get PredInfo.stratum_set Change.length_enc Change.ok_enc Change.all_get Change.all_set Change.del_get Change.del_set Change.pred_get Change.pred_set Change.t_get Change.t_set Store.length_enc Store.ok_enc Store.all_get Store.all_set Store.names_get Store.names_set Store.arity_get Store.arity_set Store.rows_get Store.rows_set Src.length_enc Src.ok_enc Src.all_get Src.all_set Src.b_get Src.b_set Src.at__get Src.at__set Atom.length_enc Atom.ok_enc Atom.all_get Atom.all_set Atom.pred_get Atom.pred_set Atom.args_get Atom.args_set GRule.length_enc GRule.ok_enc GRule.all_get GRule.all_set GRule.head_get GRule.head_set GRule.body_get GRule.body_set GRule.head_pred_get GRule.head_pred_set GRule.head_args_get GRule.head_args_set Cert.length_enc Cert.ok_enc Cert.all_get Cert.all_set Cert.names_get Cert.names_set Cert.nodes_get Cert.nodes_set Fact.length_enc Fact.ok_enc Fact.all_get Fact.all_set Fact.pred_get Fact.pred_set Fact.t_get Fact.t_set Literal.length_enc Literal.ok_enc Literal.all_get Literal.all_set Literal.neg_get Literal.neg_set Literal.atom_get Literal.atom_set Literal.atom_pred_get Literal.atom_pred_set Literal.atom_args_get Literal.atom_args_set Engine.length_enc Engine.ok_enc Engine.all_get Engine.all_set Engine.prog_get Engine.prog_set Engine.st_get Engine.st_set SrcCertm.length_enc SrcCertm.ok_enc SrcCertm.all_get SrcCertm.all_set SrcCertm.b_get SrcCertm.b_set SrcCertm.at__get SrcCertm.at__set GNode.length_enc GNode.ok_enc GNode.all_get GNode.all_set GNode.rule_get GNode.rule_set GNode.pred_get GNode.pred_set GNode.vals_get GNode.vals_set GNode.refs_get GNode.refs_set Term.length_enc Term.ok_enc Term.all_get Term.all_set Term.var_get Term.var_set Term.n_get Term.n_set Env.length_enc Env.ok_enc Env.all_get Env.all_set Env.val_get Env.val_set Env.set_get Env.set_set
attribute [local go_sem] size_put size_ext blk_put free_put blk_alloc free_alloc blk_drew free_drew blk_ext free_ext lookOr_some putOr_some segAt_some cellAt_some storeIn_some put_put put_alloc_new length_arr ok_arr_u8 ok_arr_u32 ok_arr_u64 ok_arr_i64 ok_arr_sl cellsV_agg cellsV_int cellsV_bool cellsV_string cellsV_pointer cellsV_slice cellsV_sl ok_int ok_bool ok_string ok_pointer ok_slice ok_sl toList_arr seg_arr set_arr nth_splice nth_splice0 seg_splice seg_splice0 splice_splice splice_splice0 length_splice_if
attribute [local go_sem ↓] execOp_box
attribute [local go_sem] box_run nth_arr_u8 put_arr_u8 blk_drewN free_drewN put_drewN blk_raw free_raw
/-- One literal in the search for a path. -/
def rchL (q at_ : Nat) (X : List Bool × List Nat) (l : PL) : List Bool × List Nat := if l.atom.pred = at_ ∧ X.1.getD q false = false then (X.1.set q true, X.2 ++ [q]) else X
def rchR (at_ : Nat) (X : List Bool × List Nat) (r : PR) : List Bool × List Nat := r.body.foldl (rchL r.head.pred at_) X
/-- The search for a path. -/
inductive ReTo (p : PP) (tg_ : Nat) : List Bool → List Nat → Bool → Prop where
  | no (seen : List Bool) : ReTo p tg_ seen [] false
  | yes (seen : List Bool) (todo : List Nat) : ReTo p tg_ seen (todo ++ [tg_]) true
  | go (seen : List Bool) (todo : List Nat) (at_ : Nat) (b : Bool) : at_ ≠ tg_ → ReTo p tg_ (p.rules.foldl (rchR at_) (seen, todo)).1 (p.rules.foldl (rchR at_) (seen, todo)).2 b → ReTo p tg_ seen (todo ++ [at_]) b
def rchP (p : PP) (fr tg_ : Nat) (b : Bool) : Prop := ReTo p tg_ ((List.replicate p.preds.length false).set fr true) [fr] b
/-- How many are not seen. -/
def unS (seen : List Bool) : Nat := seen.countP (fun b => !b)
theorem unS_set {seen : List Bool} {q : Nat} (h : q < seen.length) (hq : seen.getD q false = false) : unS (seen.set q true) + 1 = unS seen := by
  induction seen generalizing q with
  | nil => simp at h
  | cons b seen ih =>
    cases q with
    | zero =>
      have hb : b = false := hq
      subst hb
      simp [unS]
    | succ q =>
      have h9 := ih (q := q) (by simp at h; omega) hq
      unfold unS at h9 ⊢
      rw [List.set_cons_succ, List.countP_cons, List.countP_cons]
      omega
def RcOk (N : Nat) (X : List Bool × List Nat) : Prop := X.1.length = N ∧ ∀ q ∈ X.2, q < N
theorem rchL_ok {N q at_ : Nat} (hq : q < N) {X : List Bool × List Nat} (h : RcOk N X) (l : PL) : RcOk N (rchL q at_ X l) ∧ 2 * unS (rchL q at_ X l).1 + (rchL q at_ X l).2.length ≤ 2 * unS X.1 + X.2.length := by
  unfold rchL
  split
  · rename_i hc
    refine ⟨⟨by rw [List.length_set]; exact h.1, fun x hx => ?_⟩, ?_⟩
    · rcases List.mem_append.1 hx with hx | hx
      · exact h.2 x hx
      · rw [List.mem_singleton.1 hx]; exact hq
    · have := unS_set (by rw [h.1]; exact hq) hc.2
      dsimp only
      rw [List.length_append, List.length_singleton]
      omega
  · exact ⟨h, Nat.le_refl _⟩
theorem foldL_ok {N q at_ : Nat} (hq : q < N) : ∀ (ls : List PL) {X : List Bool × List Nat}, RcOk N X → RcOk N (ls.foldl (rchL q at_) X) ∧ 2 * unS (ls.foldl (rchL q at_) X).1 + (ls.foldl (rchL q at_) X).2.length ≤ 2 * unS X.1 + X.2.length
  | [], X, h => ⟨h, Nat.le_refl _⟩
  | l :: ls, X, h => by
    rw [List.foldl_cons]
    obtain ⟨h1, h2⟩ := rchL_ok (at_ := at_) hq h l
    obtain ⟨h3, h4⟩ := foldL_ok hq ls h1
    exact ⟨h3, Nat.le_trans h4 h2⟩
theorem foldR_ok {N at_ : Nat} : ∀ (rs : List PR) {X : List Bool × List Nat}, (∀ r ∈ rs, r.head.pred < N) → RcOk N X → RcOk N (rs.foldl (rchR at_) X) ∧ 2 * unS (rs.foldl (rchR at_) X).1 + (rs.foldl (rchR at_) X).2.length ≤ 2 * unS X.1 + X.2.length
  | [], X, _, h => ⟨h, Nat.le_refl _⟩
  | r :: rs, X, hr, h => by
    rw [List.foldl_cons]
    obtain ⟨h1, h2⟩ := foldL_ok (at_ := at_) (hr r List.mem_cons_self) r.body h
    obtain ⟨h3, h4⟩ := foldR_ok rs (fun x hx => hr x (List.mem_cons_of_mem _ hx)) h1
    exact ⟨h3, Nat.le_trans h4 h2⟩
def bolC (seen : List Bool) : List Value := seen.map Value.bool
theorem bolC_len (seen : List Bool) : (bolC seen).length = seen.length := List.length_map ..
theorem bolC_at {seen : List Bool} {i : Nat} (h : i < seen.length) : nth (bolC seen) i = some (.bool (seen.getD i false)) := by
  unfold nth bolC
  rw [List.getElem?_map, List.getD_eq_getElem?_getD, List.getElem?_eq_getElem h]; rfl
theorem bolC_set {seen : List Bool} {i : Nat} (b : Bool) (h : i < seen.length) : splice (bolC seen) i [.bool b] = bolC (seen.set i b) := by
  rw [splice_set _ (by rw [bolC_len]; exact h)]
  unfold bolC
  rw [List.map_set]
/-- The search in memory. -/
structure RS (W : World) (bs : Nat) (O : Own) (V : World) (X : List Bool × List Nat) (ta : Option Addr) (tn tc : Nat) : Prop where
  ext : W.Extends V
  sb : blk V bs = some (bolC X.1)
  sf : free V bs = true
  sO : O bs = .a 9 1
  sl : W.heap.size ≤ bs
  lo : ∀ k, k < W.heap.size → O k = .a 9 9
  row : RowL W.heap.size O (.a 9 3) V 3 1 (.slice ta tn tc) (X.2.map Int.ofNat).length ((X.2.map Int.ofNat).flatMap encZ)
theorem RS.tn {W : World} {bs : Nat} {O : Own} {V : World} {X : List Bool × List Nat} {ta : Option Addr} {tn tc : Nat} (h : RS W bs O V X ta tn tc) : X.2.length = tn := by
  have h9 := (h.row.rw encZ_len).1.1
  rw [List.length_map] at h9
  exact h9
/-- A predicate is marked and laid on the pile. -/
theorem RS.push {W : World} {bs : Nat} {O : Own} {V : World} {X : List Bool × List Nat} {ta : Option Addr} {tn tc : Nat} (h : RS W bs O V X ta tn tc) (q : Nat) (hl : X.2.length ≤ 1000000) : ∃ a' c' V' O', (Builtin.append_ #[180, 180] 180 #[.slice ta tn tc, .slice (some ⟨(put V bs (bolC (X.1.set q true))).heap.size, 0, none⟩) 1 1]).run Tryz.prog ((put V bs (bolC (X.1.set q true))).alloc (.cells #[.int .i64 (q : Int)] 3)) = .ok (.slice a' (tn + 1) c') V' ∧ RS W bs O' V' (X.1.set q true, X.2 ++ [q]) a' (tn + 1) c' := by
  have hne : ∀ {b : Nat} {l : Lab}, O b = l → l ≠ .a 9 1 → ¬ (O b = .a 9 1) := fun h1 h2 h3 => h2 (h1.symm.trans h3)
  have hF : Fr (fun y => y = .a 9 1) O V O (put V bs (bolC (X.1.set q true))) := (Fr.refl _ _ _).put (L := fun l => l = .a 9 1) h.sO _
  have hx : W.Extends (put V bs (bolC (X.1.set q true))) := ext_put_new h.ext h.sl _
  have hrow := h.row.fr hF (fun e => by cases e)
  have hb : blk (put V bs (bolC (X.1.set q true))) bs = some (bolC (X.1.set q true)) := by rw [blk_put, if_pos rfl, h.sb]; rfl
  have hf : free (put V bs (bolC (X.1.set q true))) bs = true := by rw [free_put]; exact h.sf
  obtain ⟨a', c', V', hrun, hR, hF2⟩ := appLB el183 180 (q : Int) hrow hx.size (by rw [List.length_map]; omega) (by rw [List.length_map]; omega) #[.int .i64 (q : Int)] rfl 1
  refine ⟨a', c', V', _, hrun, hF2.extends hx (fun k hk e => by rw [h.lo k hk] at e; cases e), hF2.blk hb (by rw [h.sO]; exact fun e => by cases e), hF2.free hb hf (by rw [h.sO]; exact fun e => by cases e), (hF2.keep bs (blk_lt hb)).trans h.sO, h.sl, fun k hk => (hF2.keep k (Nat.lt_of_lt_of_le hk hx.size)).trans (h.lo k hk), ?_⟩
  show RowL _ _ _ _ _ _ _ ((X.2 ++ [q]).map Int.ofNat).length (((X.2 ++ [q]).map Int.ofNat).flatMap encZ)
  rw [List.map_append]
  exact hR
/-- The top of the pile is taken. -/
theorem RS.pop {W : World} {bs : Nat} {O : Own} {V : World} {seen : List Bool} {todo : List Nat} {q : Nat} {ta : Option Addr} {tn tc : Nat} (h : RS W bs O V (seen, todo ++ [q]) ta tn tc) : ∃ b C, ta = some ⟨b, 0, none⟩ ∧ blk V b = some C ∧ todo.length < C.length ∧ nth C todo.length = some (.int .i64 (q : Int)) ∧ tn = todo.length + 1 ∧ todo.length ≤ tc ∧ RS W bs O V (seen, todo) ta todo.length tc := by
  have htn : (todo ++ [q]).length = tn := h.tn
  rw [List.length_append, List.length_singleton] at htn
  have hx : ((todo ++ [q]).map Int.ofNat)[todo.length]? = some (q : Int) := by
    rw [List.getElem?_map, List.getElem?_append_right (Nat.le_refl _), Nat.sub_self]; rfl
  obtain ⟨b, C, e1, e2, e3, e4⟩ := int_at (h.row.rw encZ_len).1 hx
  obtain ⟨hrw, hc1, hc2⟩ := h.row.rw encZ_len
  refine ⟨b, C, e1, e2, e3, e4, htn.symm, by omega, h.ext, h.sb, h.sf, h.sO, h.sl, h.lo, ?_, fun k hk => h.row.2 k (by rw [e1] at hk ⊢; exact hk)⟩
  have h9 := h.row.1
  obtain ⟨h1, h2 | ⟨g, cap, cur, k1, k2, k3, k4, k5, k6, k7⟩⟩ := h9
  · have h8 := h2.2
    rw [List.length_map, List.length_append, List.length_singleton] at h8
    omega
  · have hfl : ∀ L : List Int, (L.flatMap encZ).length = L.length := fun L => by
      induction L with
      | nil => rfl
      | cons x L ih => rw [List.flatMap_cons, List.length_append, ih]; show 1 + _ = _; rw [List.length_cons]; omega
    have e9 : Value.slice ta tn tc = .slice (some ⟨g, 0, none⟩) ((todo ++ [q]).map Int.ofNat).length cap := k1
    have e8 : ta = some ⟨g, 0, none⟩ ∧ tc = cap := by cases e9; exact ⟨rfl, rfl⟩
    show World.ownsRow V W.heap.size 3 1 (.slice ta todo.length tc) (todo.map Int.ofNat).length _
    refine ⟨by show ((todo.map Int.ofNat).flatMap encZ).length = _; rw [hfl]; omega, .inr ⟨g, cap, cur, ?_, k2, k3, ?_, k5, k6, ?_⟩⟩
    · rw [e8.1, e8.2, List.length_map]
    · have k9 : ((todo ++ [q]).map Int.ofNat).length ≤ cap := k4
      rw [List.length_map, List.length_append] at k9
      rw [List.length_map]
      omega
    · have k8 : cur.toList.take (((todo ++ [q]).map Int.ofNat).length * 1) = ((todo ++ [q]).map Int.ofNat).flatMap encZ := k7
      rw [List.map_append, List.flatMap_append, List.length_append] at k8
      have h7 := congrArg (List.take (todo.map Int.ofNat).length) k8
      rw [List.take_take, Nat.min_eq_left (by omega), List.take_append_of_le_length (by rw [hfl]; omega), List.take_of_length_le (l := (todo.map Int.ofNat).flatMap encZ) (by rw [hfl]; omega)] at h7
      rw [Nat.mul_one]
      exact h7
theorem make174 (w : World) (n : Nat) (hn : n ≤ 1000) : (makeOp 174 (.int .i64 (n : Int)) (.int .i64 (n : Int))).run Tryz.prog w = .ok (.value (.slice (some ⟨w.heap.size, 0, none⟩) n n)) (w.alloc (.cells (bolC (List.replicate n false)).toArray 4)) := by
  obtain ⟨i, hi, hz, hsz, hby⟩ : ∃ i, Tryz.prog.info? 4 = some i ∧ i.zero = some (.bool false) ∧ i.size = 1 ∧ i.bytes = 1 := by
    have hq : (Tryz.prog.info? 4).map (fun i => (i.zero, i.size, i.bytes)) = some (some (.bool false), 1, 1) := by kernel_rfl
    cases hx : Tryz.prog.info? 4 with
    | none => rw [hx] at hq; simp at hq
    | some i =>
      rw [hx] at hq
      simp only [Option.map_some, Option.some.injEq, Prod.mk.injEq] at hq
      exact ⟨i, rfl, hq.1, hq.2.1, hq.2.2⟩
  have hr := run_make (P := Tryz.prog) w 174 4 i _ Tryz.underlying174 hi hz .i64 .i64 (n : Int) (n : Int) (by omega) (by omega) (by rw [hby]; omega) (by omega)
  unfold makeOp
  rw [Sem.run_bind, hr, hsz, Int.toNat_natCast, Nat.mul_one, madeCells_one _ rfl n]
  unfold bolC
  rw [List.map_replicate]
  rfl
end Go.Proofs.Qxb6500787aGreat
