import Derived.Test.Qxb6500787aYd
import Derived.StillTailTactics
import Derived.Deep.QuietTactic
import Derived.BigQuiet
import Derived.Deep.RegionHeld
import Derived.Deep.CutRange
import Derived.Laws.ResultCell
import Derived.Laws.Rows
import Derived.DeepKeys
import Derived.DataBytes
import Derived.Laws.StructEq
import Derived.Laws.AppendOwn
import Derived.Laws.MakeOwn
import Derived.Lib.AppendStr
set_option linter.unusedSimpArgs false
set_option linter.unusedVariables false
namespace Go.Proofs.Qxb6500787a
open Go.RowKit Go.Blk
attribute [local go_sem ↓] execOp_load execOp_store execOp_alloc
attribute [local go_sem] Try.ld26 Try.st26 Try.ld27 Try.st27 Try.ld28 Try.st28 Try.ld3 Try.st3 Try.ld29 Try.st29 Try.ld44 Try.st44 Try.ld4 Try.st4 Try.ld50 Try.st50 Try.ld32 Try.st32 Try.ld49 Try.st49 Try.ld68 Try.st68 Try.ld9 Try.st9 Try.ld40 Try.st40 Try.ld138 Try.st138 Try.ld139 Try.st139 Try.ld146 Try.st146 Try.ld183 Try.st183 Try.ld184 Try.st184 Try.ld192 Try.st192 Try.ld195 Try.st195 Try.ld217 Try.st217 Try.ld159 Try.st159 Try.ld142 Try.st142 Try.ld2 Try.st2 Try.ld5 Try.st5 Try.ld12 Try.st12 Try.ld21 Try.st21 Try.ld22 Try.st22 Try.ld24 Try.st24 Try.ld58 Try.st58 Try.ld63 Try.st63 Try.ld97 Try.st97 Try.ld101 Try.st101 Try.ld116 Try.st116 Try.ld121 Try.st121 Try.ld135 Try.st135 Try.ld136 Try.st136 Try.ld143 Try.st143 Try.ld148 Try.st148 Try.ld154 Try.st154 Try.ld173 Try.st173 Try.ld187 Try.st187 Try.ld222 Try.st222 Try.ld241 Try.st241 Try.ld248 Try.st248 Try.ld268 Try.st268 Try.ld272 Try.st272 Try.ld153 Try.st153 Try.ld255 Try.st255 Try.ld256 Try.st256 Try.ld129 Try.st129 Try.ld152 Try.st152 Try.ld31 Try.st31 Try.ld46 Try.st46 Try.ld52 Try.st52 Try.ld54 Try.st54 Try.ld60 Try.st60 Try.ld70 Try.st70 Try.ld74 Try.st74 Try.ld93 Try.st93 Try.ld119 Try.st119 Try.ld141 Try.st141 Try.ld151 Try.st151 Try.ld170 Try.st170 Try.ld186 Try.st186 Try.ld189 Try.st189 Try.ld194 Try.st194 Try.ld197 Try.st197 Try.ld219 Try.st219 Try.ld224 Try.st224 Try.ld230 Try.st230 Try.ld235 Try.st235 Try.ld243 Try.st243 Try.ld247 Try.st247 Try.ld252 Try.st252 Try.ld258 Try.st258 Try.al153 Try.al255 Try.al256 Try.al129 Try.al152 Try.al31 Try.al46 Try.al52 Try.al54 Try.al60 Try.al70 Try.al74 Try.al93 Try.al119 Try.al141 Try.al151 Try.al170 Try.al186 Try.al189 Try.al194 Try.al197 Try.al219 Try.al224 Try.al230 Try.al235 Try.al243 Try.al247 Try.al252 Try.al258
attribute [local go_sem] Request.length_enc Request.ok_enc Request.all_get Request.all_set Request.kind_get Request.kind_set Request.blob_get Request.blob_set Request.items_get Request.items_set Request.pred_get Request.pred_set Request.slots_get Request.slots_set Trace.length_enc Trace.ok_enc Trace.all_get Trace.all_set Trace.op_get Trace.op_set Trace.calls_get Trace.calls_set Item.length_enc Item.ok_enc Item.all_get Item.all_set Item.del_get Item.del_set Item.pred_get Item.pred_set Item.args_get Item.args_set Reply.length_enc Reply.ok_enc Reply.all_get Reply.all_set Reply.code_get Reply.code_set Reply.kind_get Reply.kind_set Reply.index_get Reply.index_set Reply.yes_get Reply.yes_set Reply.preds_get Reply.preds_set Reply.rules_get Reply.rules_set Reply.arity_get Reply.arity_set Reply.rows_get Reply.rows_set Reply.fact_get Reply.fact_set Reply.fact_del_get Reply.fact_del_set Reply.fact_pred_get Reply.fact_pred_set Reply.fact_args_get Reply.fact_args_set GEntry.length_enc GEntry.ok_enc GEntry.all_get GEntry.all_set GEntry.seq_get GEntry.seq_set GEntry.kind_get GEntry.kind_set GEntry.code_get GEntry.code_set GOp.length_enc GOp.ok_enc GOp.all_get GOp.all_set GOp.kind_get GOp.kind_set GOp.raw_get GOp.raw_set Reader.length_enc Reader.ok_enc Reader.all_get Reader.all_set Reader.buf_get Reader.buf_set Reader.at__get Reader.at__set Slot.length_enc Slot.ok_enc Slot.all_get Slot.all_set Slot.bound_get Slot.bound_set Slot.name_get Slot.name_set Session.length_enc Session.ok_enc Session.all_get Session.all_set Session.svc_get Session.svc_set Session.buf_get Session.buf_set Session.closed_get Session.closed_set GProgram.length_enc GProgram.ok_enc GProgram.all_get GProgram.all_set GProgram.pool_get GProgram.pool_set GProgram.preds_get GProgram.preds_set GProgram.rules_get GProgram.rules_set GProgram.strata_get GProgram.strata_set PredInfo.length_enc PredInfo.ok_enc PredInfo.all_get PredInfo.all_set PredInfo.arity_get PredInfo.arity_set PredInfo.base_get PredInfo.base_set PredInfo.stratum_get PredInfo.stratum_set Change.length_enc Change.ok_enc Change.all_get Change.all_set Change.del_get Change.del_set Change.pred_get Change.pred_set Change.t_get Change.t_set Store.length_enc Store.ok_enc Store.all_get Store.all_set Store.names_get Store.names_set Store.arity_get Store.arity_set Store.rows_get Store.rows_set Src.length_enc Src.ok_enc Src.all_get Src.all_set Src.b_get Src.b_set Src.at__get Src.at__set Atom.length_enc Atom.ok_enc Atom.all_get Atom.all_set Atom.pred_get Atom.pred_set Atom.args_get Atom.args_set GRule.length_enc GRule.ok_enc GRule.all_get GRule.all_set GRule.head_get GRule.head_set GRule.body_get GRule.body_set GRule.head_pred_get GRule.head_pred_set GRule.head_args_get GRule.head_args_set Cert.length_enc Cert.ok_enc Cert.all_get Cert.all_set Cert.names_get Cert.names_set Cert.nodes_get Cert.nodes_set Fact.length_enc Fact.ok_enc Fact.all_get Fact.all_set Fact.pred_get Fact.pred_set Fact.t_get Fact.t_set Literal.length_enc Literal.ok_enc Literal.all_get Literal.all_set Literal.neg_get Literal.neg_set Literal.atom_get Literal.atom_set Literal.atom_pred_get Literal.atom_pred_set Literal.atom_args_get Literal.atom_args_set Engine.length_enc Engine.ok_enc Engine.all_get Engine.all_set Engine.prog_get Engine.prog_set Engine.st_get Engine.st_set SrcCertm.length_enc SrcCertm.ok_enc SrcCertm.all_get SrcCertm.all_set SrcCertm.b_get SrcCertm.b_set SrcCertm.at__get SrcCertm.at__set GNode.length_enc GNode.ok_enc GNode.all_get GNode.all_set GNode.rule_get GNode.rule_set GNode.pred_get GNode.pred_set GNode.vals_get GNode.vals_set GNode.refs_get GNode.refs_set Term.length_enc Term.ok_enc Term.all_get Term.all_set Term.var_get Term.var_set Term.n_get Term.n_set Env.length_enc Env.ok_enc Env.all_get Env.all_set Env.val_get Env.val_set Env.set_get Env.set_set
attribute [local go_sem] size_put size_ext blk_put free_put blk_alloc free_alloc blk_drew free_drew blk_ext free_ext lookOr_some putOr_some segAt_some cellAt_some storeIn_some put_put put_alloc_new length_arr ok_arr_u8 ok_arr_u32 ok_arr_u64 ok_arr_i64 ok_arr_sl cellsV_agg cellsV_int cellsV_bool cellsV_string cellsV_pointer cellsV_slice cellsV_sl ok_int ok_bool ok_string ok_pointer ok_slice ok_sl toList_arr seg_arr set_arr nth_splice nth_splice0 seg_splice seg_splice0 splice_splice splice_splice0 length_splice_if
attribute [local go_sem ↓] execOp_box
attribute [local go_sem] box_run nth_arr_u8 put_arr_u8 blk_drewN free_drewN put_drewN blk_raw free_raw
theorem fields60 : (Try.prog.fieldsOf 60).toList.map (fun f => (f.type, f.offset)) = [(3, 0), (26, 1), (32, 2)] := by kernel_rfl
theorem named60 : ∀ f ∈ (Try.prog.fieldsOf 60).toList, f.name ≠ "_" := by
  have h : ((Try.prog.fieldsOf 60).toList.all fun f => f.name != "_") = true := by kernel_rfl
  intro f hf
  simpa using List.all_eq_true.1 h f hf
theorem p60a (w : World) (x : GEntry) : (part 3 x.enc.toArray 0).run Try.prog w = .ok (.int .i64 x.seq) w := run_part_plain w (by kernel_rfl) rfl
theorem p60b (w : World) (x : GEntry) : (part 26 x.enc.toArray 1).run Try.prog w = .ok (.int .i64 x.kind) w := run_part_plain w (by kernel_rfl) rfl
theorem p60c (w : World) (x : GEntry) : (part 32 x.enc.toArray 2).run Try.prog w = .ok (.int .i64 x.code) w := run_part_plain w (by kernel_rfl) rfl
theorem eq60 (w : World) (d : Nat) (x : GEntry) : (Op.equalIn (d + 3) 60 (.agg x.enc.toArray) (.agg x.enc.toArray)).run Try.prog w = .ok true w := by
  rw [run_equalIn_struct w (d + 2) 60 _ _ (by kernel_rfl) (by kernel_rfl), eqFields_all w (d + 2) _ _ (fun _ => true) _ ?_]
  · rw [show ∀ l : List Nat, l.all (fun _ => true) = true from fun l => by simp]
  intro f hf
  refine ⟨named60 f hf, ?_⟩
  have hm : (f.type, f.offset) ∈ (Try.prog.fieldsOf 60).toList.map (fun f => (f.type, f.offset)) := List.mem_map.2 ⟨f, hf, rfl⟩
  rw [fields60] at hm
  simp only [List.mem_cons, Prod.mk.injEq, List.mem_nil_iff, or_false] at hm
  rcases hm with ⟨h1, h2⟩ | ⟨h1, h2⟩ | ⟨h1, h2⟩ <;> rw [h1, h2]
  · refine ⟨_, _, p60a w x, p60a w x, ?_⟩
    rw [run_equalIn_int w (d + 1) 3 .i64 .i64 _ _ (by kernel_rfl), beq_self_eq_true]
  · refine ⟨_, _, p60b w x, p60b w x, ?_⟩
    rw [run_equalIn_int w (d + 1) 26 .i64 .i64 _ _ (by kernel_rfl), beq_self_eq_true]
  · refine ⟨_, _, p60c w x, p60c w x, ?_⟩
    rw [run_equalIn_int w (d + 1) 32 .i64 .i64 _ _ (by kernel_rfl), beq_self_eq_true]
theorem execOp_neq60 (a : Act) (dst : Option Tmp) (x y : Operand) (ty : TypeId) (pos : String) (after : Array Edge) (guard : Option (Nat × Bool)) :
    execOp a.eval { dst, op := .binOp .neq 60 x y 60, type := ty, pos, after, guard } = cmpNe 60 x y (a.eval x) (a.eval y) := rfl
theorem guard60 (w : World) (op : BinOp) (x y : Operand) (a b : GEntry) : (eqGuard op 60 x y (.agg a.enc.toArray) (.agg b.enc.toArray)).run Try.prog w = .ok () w := by
  have ht : Try.prog.eqGuardType Try.prog.depth 60 = false := by kernel_rfl
  unfold eqGuard
  cases op <;> simp [Sem.run_bind, run_program, ht]
theorem neq60 (w : World) (x y : Operand) (a : GEntry) : (cmpNe 60 x y (.agg a.enc.toArray) (.agg a.enc.toArray)).run Try.prog w = .ok (.value (.bool false)) w := by
  have h1 : (binOp .neq 60 (.agg a.enc.toArray) (.agg a.enc.toArray)).run Try.prog w = .ok (.bool false) w := by rw [run_neq_struct, eq60 w 9997]; rfl
  unfold cmpNe
  simp only [Sem.run_bind, guard60, Result.andThen_ok, h1]
  rfl
/-- The trail has been told the entries K. -/
def Trl (r : Nat → Int) (K : List GEntry) : Prop := r 196 = (K.length : Int) ∧ ∀ i x, K[i]? = some x → K.length ≤ i + 64 → ring r (i % 64) = x
theorem ring_tr {r : Nat → Int} {n : Nat} (h : r 196 = (n : Int)) (kind code : Int) {j : Nat} (hj : j < 64) : ring (trF r kind code) j = if j = n % 64 then ⟨(n : Int) + 1, kind, code⟩ else ring r j := by
  have h1 : (r 196).toNat = n := by rw [h]; rfl
  unfold ring trF
  rw [h1, h]
  obtain ⟨d, hd⟩ : ∃ d, d = n % 64 := ⟨_, rfl⟩
  rw [← hd]
  by_cases e : j = d
  · subst e
    rw [if_pos rfl, if_neg (by omega), if_pos rfl, if_neg (by omega), if_neg (by omega), if_pos rfl, if_neg (by omega), if_neg (by omega), if_neg (by omega), if_pos rfl]
  · rw [if_neg e, if_neg (by omega), if_neg (by omega), if_neg (by omega), if_neg (by omega), if_neg (by omega), if_neg (by omega), if_neg (by omega), if_neg (by omega), if_neg (by omega), if_neg (by omega), if_neg (by omega), if_neg (by omega)]
theorem ring_lo {r r' : Nat → Int} (h : ∀ k, k < 197 → r' k = r k) {j : Nat} (hj : j < 64) : ring r' j = ring r j := by
  unfold ring
  rw [h _ (by omega), h _ (by omega), h _ (by omega)]
theorem Trl.step {s s' : Sv} {raw : List UInt8} {q : PRep} (h : svR s raw q s') {K : List GEntry} (hT : Trl s.rst K) : Trl s'.rst (K ++ [⟨(K.length : Int) + 1, q.kind, q.code⟩]) := by
  obtain ⟨s1, h, rfl⟩ := h
  have h1 : ∀ k, k < 197 → s1.rst k = s.rst k := by
    rcases h with ⟨-, -, rfl⟩ | ⟨-, h⟩
    · exact fun k _ => rfl
    · obtain ⟨co, -, e⟩ := h.rsu
      intro k hk
      rw [e]
      unfold upR
      rw [if_neg (by omega)]
      rfl
  have h2 : ∀ k, k < 197 → cntF s1.rst q.kind.toNat q.code.toNat k = s.rst k := fun k hk => (cntF_lo _ _ _ hk).trans (h1 k hk)
  have h196 : cntF s1.rst q.kind.toNat q.code.toNat 196 = (K.length : Int) := (h2 196 (by omega)).trans hT.1
  constructor
  · show trF (cntF s1.rst q.kind.toNat q.code.toNat) q.kind q.code 196 = _
    unfold trF
    rw [if_pos rfl, h196, List.length_append]
    simp
  · intro i x hi hl
    rw [List.length_append, List.length_singleton] at hl
    show ring (trF (cntF s1.rst q.kind.toNat q.code.toNat) q.kind q.code) _ = _
    rw [ring_tr h196 _ _ (Nat.mod_lt _ (by omega))]
    by_cases e : i < K.length
    · rw [List.getElem?_append_left e] at hi
      rw [if_neg (by omega), ring_lo h2 (Nat.mod_lt _ (by omega))]
      exact hT.2 i x hi (by omega)
    · rw [List.getElem?_append_right (by omega)] at hi
      have e2 : i = K.length := by
        by_cases e3 : i - K.length = 0
        · omega
        · rw [List.getElem?_eq_none (by rw [List.length_singleton]; omega)] at hi; cases hi
      subst e2
      rw [Nat.sub_self] at hi
      rw [if_pos rfl]
      exact Option.some.inj hi
theorem Trl.at {r : Nat → Int} {K : List GEntry} (h : Trl r K) {k : Nat} (hk : k < min K.length 64) : ∃ x, K[K.length - min K.length 64 + k]? = some x ∧ (lstF r (K.length - min K.length 64) (min K.length 64))[k]? = some x := by
  have hlt : K.length - min K.length 64 + k < K.length := by omega
  refine ⟨_, List.getElem?_eq_getElem hlt, ?_⟩
  have h1 := h.2 _ _ (List.getElem?_eq_getElem hlt) (by omega)
  rw [← h1]
  unfold lstF
  rw [List.getElem?_map, List.getElem?_range hk]
  rfl
theorem Trl.zero : Trl Sv.zero.rst [] := ⟨rfl, fun i x h => by cases h⟩
theorem isI_57 {g : Nat} (hg : g < 2) : ¬ isI g (.a 5 7) := isI_5 hg
/-- A row of the law's own grows. -/
theorem LS.fr57 {Ob : Own} {Wb : World} {bs : Nat} {m : Int} {s : Sv} {O : Own} {g : Nat} {V V' : World} (h : LS Ob Wb bs m s O g V) (h57 : ∀ k, k < Wb.heap.size → ¬ ∃ j, Ob k = .a 5 j) {l : Lab} {jj : Nat} (hl : l = .a 5 jj) (hF : Fr (fun y => y = l) O V (lab O V.heap.size l) V') : LS Ob Wb bs m s (lab O V.heap.size l) g V' := by
  obtain ⟨CS, ip, ia, iN, ic, hS⟩ := h.sv
  have hgl := hS.gl
  refine ⟨⟨hF.os.trans h.kp.os, hF.tape.trans h.kp.tape, hF.output.trans h.kp.output, Nat.le_trans h.kp.size hF.size, fun k hk hkp => ?_⟩, ⟨CS, ip, ia, iN, ic, hS.fr5 (fun y hy => ⟨jj, hy.trans hl⟩) hF⟩, fun k => ?_, fun k i j e => ?_, h.inv⟩
  · obtain ⟨e1, e2⟩ := h.kp.keep k hk hkp
    have hk' : k < V.heap.size := Nat.lt_of_lt_of_le hk h.kp.size
    refine ⟨(hF.keep k hk').trans e1, (hF.block k hk' ?_).trans e2⟩
    rw [e1]
    exact fun e => h57 k hk ⟨jj, e.trans hl⟩
  · by_cases hk : k < V.heap.size
    · rw [lab_lt hk]; exact h.fr k
    · rw [lab_ge (by omega), hl]; exact ⟨isI_5 (by omega), fun e => by cases e⟩
  · by_cases hk : k < V.heap.size
    · rw [lab_lt hk] at e; exact h.lo k i j e
    · rw [lab_ge (by omega), hl] at e
      have := (Lab.a.inj e).1
      omega
theorem RowL.kp {B : Nat} {O O' : Own} {l : Lab} {W W' : World} {e : TypeId} {sz : Nat} {v : Value} {n : Nat} {xs : List Value} (h : RowL B O l W e sz v n xs) (hl : kept l) (hK : Kp O W O' W') : RowL B O' l W' e sz v n xs := h.keep (fun k hk ho => by
  obtain ⟨e1, e2⟩ := hK.keep k hk (by rw [ho]; exact hl)
  exact ⟨e2, e1⟩)
set_option maxRecDepth 20000 in
theorem audit_any {O : Own} {W : World} {bs g : Nat} {s : Sv} (h : SvAt O W bs g s) {sn : Nat} (hs : s.rst 196 = (sn : Int)) (hsn : sn ≤ 1000000000) : Calls Try.prog 26 #[.pointer (some ⟨bs, 0, none⟩)] W fun e V => ∃ a c, e = .returned (.slice a (min sn 64) c) ∧ OutG GEntry.enc 3 60 W V a (min sn 64) c (lstF s.rst (sn - min sn 64) (min sn 64)) := by
  obtain ⟨CS, ip, ia, iN, ic, h⟩ := h
  have hc := trailList_any h.cell h.c.len h.c.rs hs hsn
  clear h hs hsn
  obtain ⟨Q, hQ⟩ : ∃ Q : Ending → World → Prop, Q = fun e V => ∃ a c, e = .returned (.slice a (min sn 64) c) ∧ OutG GEntry.enc 3 60 W V a (min sn 64) c (lstF s.rst (sn - min sn 64) (min sn 64)) := ⟨_, rfl⟩
  rw [← hQ] at hc ⊢
  have HQ := hid_of hQ
  clear hQ
  go_enter Try.func26, Try.ntmps26
  go_wp2_with fail
  refine hc.mono ?_
  rintro e V hq
  have hq2 := hq
  rw [HQ.out] at hq2
  obtain ⟨a, c, rfl, -⟩ := hq2
  dsimp only
  clear hc
  have HP := hid_of hq
  clear hq
  go_wp2_with fail
  first | exact HP.out | (go_ret; exact HP.out)
end Go.Proofs.Qxb6500787a
