import Derived.Test.Qxb6500788aBase
import Derived.StillTailTactics
import Derived.Deep.QuietTactic
import Derived.BigQuiet
import Derived.Deep.RegionHeld
import Derived.Deep.CutRange
import Derived.Laws.ResultCell
import Derived.Laws.Rows
import Derived.DeepKeys
import Derived.DataBytes
import Derived.Laws.StructEq
import Derived.Laws.AppendOwn
set_option linter.unusedSimpArgs false
set_option linter.unusedVariables false
namespace Go.Proofs.Qxb6500788a
open Go.RowKit Go.Blk
attribute [local go_sem ↓] execOp_load execOp_store execOp_alloc
attribute [local go_sem] Try.ld24 Try.st24 Try.ld25 Try.st25 Try.ld3 Try.st3 Try.ld30 Try.st30 Try.ld36 Try.st36 Try.ld4 Try.st4 Try.ld41 Try.st41 Try.ld50 Try.st50 Try.ld40 Try.st40 Try.ld42 Try.st42 Try.ld89 Try.st89 Try.ld91 Try.st91 Try.ld56 Try.st56 Try.ld97 Try.st97 Try.ld98 Try.st98 Try.ld101 Try.st101 Try.ld104 Try.st104 Try.ld57 Try.st57 Try.ld130 Try.st130 Try.ld2 Try.st2 Try.ld5 Try.st5 Try.ld9 Try.st9 Try.ld12 Try.st12 Try.ld21 Try.st21 Try.ld22 Try.st22 Try.ld29 Try.st29 Try.ld33 Try.st33 Try.ld59 Try.st59 Try.ld62 Try.st62 Try.ld69 Try.st69 Try.ld94 Try.st94 Try.ld96 Try.st96 Try.ld129 Try.st129 Try.ld158 Try.st158 Try.ld162 Try.st162 Try.ld47 Try.st47 Try.ld44 Try.st44 Try.ld137 Try.st137 Try.ld145 Try.st145 Try.ld43 Try.st43 Try.ld27 Try.st27 Try.ld38 Try.st38 Try.ld46 Try.st46 Try.ld49 Try.st49 Try.ld52 Try.st52 Try.ld54 Try.st54 Try.ld61 Try.st61 Try.ld80 Try.st80 Try.ld87 Try.st87 Try.ld93 Try.st93 Try.ld100 Try.st100 Try.ld103 Try.st103 Try.ld106 Try.st106 Try.ld109 Try.st109 Try.ld132 Try.st132 Try.ld147 Try.st147 Try.al47 Try.al44 Try.al137 Try.al145 Try.al43 Try.al27 Try.al38 Try.al46 Try.al49 Try.al52 Try.al54 Try.al61 Try.al80 Try.al87 Try.al93 Try.al100 Try.al103 Try.al106 Try.al109 Try.al132 Try.al147
attribute [local go_sem] GProgram.length_enc GProgram.ok_enc GProgram.all_get GProgram.all_set GProgram.preds_get GProgram.preds_set GProgram.rules_get GProgram.rules_set GProgram.strata_get GProgram.strata_set Answer.length_enc Answer.ok_enc Answer.all_get Answer.all_set Answer.code_get Answer.code_set Answer.n_get Answer.n_set Answer.rows_get Answer.rows_set Term.length_enc Term.ok_enc Term.all_get Term.all_set Term.var_get Term.var_set Term.n_get Term.n_set Atom.length_enc Atom.ok_enc Atom.all_get Atom.all_set Atom.pred_get Atom.pred_set Atom.args_get Atom.args_set GRule.length_enc GRule.ok_enc GRule.all_get GRule.all_set GRule.head_get GRule.head_set GRule.body_get GRule.body_set GRule.head_pred_get GRule.head_pred_set GRule.head_args_get GRule.head_args_set GOp.length_enc GOp.ok_enc GOp.all_get GOp.all_set GOp.kind_get GOp.kind_set GOp.pred_get GOp.pred_set GOp.t_get GOp.t_set GOp.n_get GOp.n_set GOp.base_get GOp.base_set GOp.rule_get GOp.rule_set GOp.rule_head_get GOp.rule_head_set GOp.rule_body_get GOp.rule_body_set GOp.rule_head_pred_get GOp.rule_head_pred_set GOp.rule_head_args_get GOp.rule_head_args_set PredInfo.length_enc PredInfo.ok_enc PredInfo.all_get PredInfo.all_set PredInfo.arity_get PredInfo.arity_set PredInfo.base_get PredInfo.base_set PredInfo.stratum_get PredInfo.stratum_set GStats.length_enc GStats.ok_enc GStats.all_get GStats.all_set GStats.rounds_get GStats.rounds_set GStats.fired_get GStats.fired_set GStats.emitted_get GStats.emitted_set GStats.fresh_get GStats.fresh_set Literal.length_enc Literal.ok_enc Literal.all_get Literal.all_set Literal.neg_get Literal.neg_set Literal.atom_get Literal.atom_set Literal.atom_pred_get Literal.atom_pred_set Literal.atom_args_get Literal.atom_args_set Engine.length_enc Engine.ok_enc Engine.all_get Engine.all_set Engine.prog_get Engine.prog_set Engine.st_get Engine.st_set Engine.levels_get Engine.levels_set Engine.running_get Engine.running_set Engine.stratum_get Engine.stratum_set Engine.round_get Engine.round_set Engine.saved_get Engine.saved_set Engine.stats_get Engine.stats_set Engine.prog_preds_get Engine.prog_preds_set Engine.prog_rules_get Engine.prog_rules_set Engine.prog_strata_get Engine.prog_strata_set Engine.stats_rounds_get Engine.stats_rounds_set Engine.stats_fired_get Engine.stats_fired_set Engine.stats_emitted_get Engine.stats_emitted_set Engine.stats_fresh_get Engine.stats_fresh_set Level.length_enc Level.ok_enc Level.all_get Level.all_set Level.heads_get Level.heads_set Level.jobs_get Level.jobs_set Plan.length_enc Plan.ok_enc Plan.all_get Plan.all_set Plan.rule_get Plan.rule_set Plan.delta_get Plan.delta_set Plan.src_get Plan.src_set Job.length_enc Job.ok_enc Job.all_get Job.all_set Job.full_get Job.full_set Job.deltas_get Job.deltas_set Job.full_rule_get Job.full_rule_set Job.full_delta_get Job.full_delta_set Job.full_src_get Job.full_src_set GState.length_enc GState.ok_enc GState.all_get GState.all_set GState.prog_get GState.prog_set GState.base_get GState.base_set GState.shown_get GState.shown_set GState.prog_preds_get GState.prog_preds_set GState.prog_rules_get GState.prog_rules_set GState.prog_strata_get GState.prog_strata_set Store.length_enc Store.ok_enc Store.all_get Store.all_set Store.arity_get Store.arity_set Store.rows_get Store.rows_set Env.length_enc Env.ok_enc Env.all_get Env.all_set Env.val_get Env.val_set Env.set_get Env.set_set
attribute [local go_sem] size_put size_ext blk_put free_put blk_alloc free_alloc blk_drew free_drew blk_ext free_ext lookOr_some putOr_some segAt_some cellAt_some storeIn_some put_put put_alloc_new length_arr ok_arr_u8 ok_arr_u32 ok_arr_u64 ok_arr_i64 ok_arr_sl cellsV_agg cellsV_int cellsV_bool cellsV_string cellsV_pointer cellsV_slice cellsV_sl ok_int ok_bool ok_string ok_pointer ok_slice ok_sl toList_arr seg_arr set_arr nth_splice nth_splice0 seg_splice seg_splice0 splice_splice splice_splice0 length_splice_if
attribute [local go_sem ↓] execOp_box
attribute [local go_sem] box_run nth_arr_u8 put_arr_u8
theorem add_addr (b o n : Nat) : (⟨b, o, none⟩ : Addr).add n = ⟨b, o + n, none⟩ := by
  unfold Addr.add; split
  · simp_all
  · rfl
/-- Where an appended row lies: where it lay, or in a new block. -/
theorem append_block_gen {P : Program} (w : World) (base : Nat) (t ty e : TypeId) (i : TypeInfo) (z : Value) (size bytes : Nat) (ht : P.underlying t = some (.slice e)) (hi : P.info? e = some i) (hz : i.zero = some z)
    (hsize : i.size = size) (hby : i.bytes = bytes) (hzs : z.cells.size = size) (hsz : 0 < size)
    (v : Value) (n : Nat) (xs : List Value) (hown : w.ownsRow base e size v n xs)
    (a : Addr) (m c : Nat) (news : List Value) (hl : news.length = m * size) (hnews : ∀ j u, news[j]? = some u → w.cell? (a.add j) = some u) (h1 : ∀ u ∈ news, u.oneCell' = true)
    (h63 : n + m ≤ maxLen) (hbytes : (n + m) * bytes ≤ 140737488355328) (v' : Value) (w' : World) (hrun : (Builtin.append_ #[t, t] ty #[v, .slice (some a) m c]).run P w = .ok v' w') :
    v'.ownBlock = v.ownBlock ∨ v'.ownBlock = some w.heap.size := by
  subst hsize
  subst hby
  have hsmall : n + m ≤ 9223372036854775807 := by simp only [maxLen] at h63; omega
  rcases hown.2 with ⟨rfl, rfl⟩ | ⟨g, cap, cur, rfl, hbg, hg, hnc, hcm, hcs, htake⟩
  · by_cases hm : m = 0
    · subst hm
      have hn : news = [] := List.eq_nil_of_length_eq_zero (by simpa using hl)
      subst hn
      have hr : (Builtin.append_ #[t, t] ty #[.slice none 0 0, .slice (some a) 0 c]).run P w = .ok (.slice none 0 0) w := by
        simp [Builtin.append_, run_underlying ht, sizeOf, typeInfo, hi, Builtin.lenOf, Builtin.firstCells, loadCells, loadCellsFrom]
      rw [hr] at hrun
      injection hrun with h2 h3
      subst h2
      exact .inl rfl
    · have hr := run_append_nil (P := P) w t ty e i z ht hi hz a m c news hl hnews (by omega) (by omega) (by have hb := hbytes; simp only [Nat.zero_add] at hb; omega)
      rw [hr] at hrun
      injection hrun with h2 h3
      subst h2
      exact .inr rfl
  · by_cases hroom : n + m ≤ cap
    · have hfit : n * i.size + news.length ≤ cur.size := by rw [hl, hcs, ← Nat.add_mul]; exact Nat.mul_le_mul_right _ hroom
      have hr := run_append_room (P := P) w t ty e i ht hi g n cap cur hg a m c news hl hnews h1 hroom hfit
      rw [hr] at hrun
      injection hrun with h2 h3
      subst h2
      exact .inl rfl
    · have holds : ∀ j u, xs[j]? = some u → w.cell? ((⟨g, 0, none⟩ : Addr).add j) = some u := hown.cells (g := g) rfl
      have hr := run_append_grow (P := P) w t ty e i z ht hi hz ⟨g, 0, none⟩ n cap xs hown.1 holds a m c news hl hnews (by omega) (by omega) (growslice_fits (by omega) hbytes)
      rw [hr] at hrun
      injection hrun with h2 h3
      subst h2
      exact .inr rfl
def makeOp (t : TypeId) (l c : Value) : Sem Next := do pure (.value (← Instr.makeSlice t l c))
theorem execOp_make (a : Act) (dst : Option Tmp) (t : TypeId) (l c : Operand) (ty : TypeId) (pos : String) (after : Array Edge) (guard : Option (Nat × Bool)) :
    execOp a.eval { dst, op := .makeSlice t l c, type := ty, pos, after, guard } = makeOp t (a.eval l) (a.eval c) := rfl
theorem wp_append_run {P : Program} {w : World} {o : Oper} {a : Act} {K : Act → World → Prop} {Q : Exit → Act → World → Prop} (s x : Operand) (t : TypeId)
    (ho : o.op = .call { callee := .builtin .append, args := #[s, x], argTypes := #[t, t] }) (v u v' : Value) (w' : World) (hs : a.eval s = v) (hx : a.eval x = u) (hr : (Builtin.append_ #[t, t] o.type #[v, u]).run P w = .ok v' w') (h : K (a.put o.dst v') w') : o.wp P a w K Q := by
  unfold Oper.wp execOp
  simp only [ho, resolve, invoke, builtin, Sem.run_bind, Sem.run_pure, Result.andThen_ok, List.map_toArray, List.map_cons, List.map_nil, hs, hx, hr]
  exact h
theorem row_keep {B : Nat} {W W' : World} {e : TypeId} {size : Nat} {v : Value} {n : Nat} {xs : List Value} (h : W.ownsRow B e size v n xs) (hw : ∀ k, v.ownBlock = some k → W'.heap[k]? = W.heap[k]?) : W'.ownsRow B e size v n xs := by
  obtain ⟨h1, h2 | ⟨g, cap, cur, e1, e2, e3, e4⟩⟩ := h
  · exact ⟨h1, .inl h2⟩
  · exact ⟨h1, .inr ⟨g, cap, cur, e1, e2, by rw [hw g (by rw [e1]; rfl)]; exact e3, e4⟩⟩
theorem row_at {B : Nat} {W : World} {e : TypeId} {size : Nat} {v : Value} {n : Nat} {xs : List Value} (h : W.ownsRow B e size v n xs) (k : Nat) (hk : v.ownBlock = some k) : B ≤ k ∧ k < W.heap.size ∧ ∃ cur fz, W.heap[k]? = some (.cells cur e fz) := by
  obtain ⟨h1, h2 | ⟨g, cap, cur, e1, e2, e3, e4⟩⟩ := h
  · rw [h2.1] at hk; simp [Value.ownBlock] at hk
  · rw [e1] at hk
    simp [Value.ownBlock] at hk
    subst hk
    exact ⟨e2, (Array.getElem?_eq_some_iff.1 e3).1, cur, _, e3⟩
theorem wpList_append_run {w : World} {ops : Array Oper} {rest : List Oper} {o : Oper} {a : Act} {Q : Exit → Act → World → Prop} (hgd : o.guard = none) (s x : Operand) (t : TypeId)
    (ho : o.op = .call { callee := .builtin .append, args := #[s, x], argTypes := #[t, t] }) (v u v' : Value) (w' : World) (hs : a.eval s = v) (hx : a.eval x = u) (hr : (Builtin.append_ #[t, t] o.type #[v, u]).run Try.prog w = .ok v' w')
    (hK : wpList Try.prog ops Q rest (a.put o.dst v') w') : wpList Try.prog ops Q (o :: rest) a w := by
  refine wpList_plain hgd fun K hK' => ?_
  unfold Oper.wp
  simp [execOp, ho, resolve, invoke, builtin, hs, hx, hr, Result.andThen]
  exact hK' _ _ hK
def bsliceOp (t : TypeId) (len : Nat) (parts : Array (Nat × Value)) : Sem Next := do pure (.value (← Instr.buildSlice t len parts))
theorem execOp_bslice (a : Act) (dst : Option Tmp) (t : TypeId) (len : Nat) (parts : Array (Nat × Operand)) (ty : TypeId) (pos : String) (after : Array Edge) (guard : Option (Nat × Bool)) :
    execOp a.eval { dst, op := .buildSlice t len parts, type := ty, pos, after, guard } = bsliceOp t len (parts.map fun (i, x) => (i, a.eval x)) := rfl
theorem row_val {B : Nat} {W : World} {e : TypeId} {size : Nat} {v : Value} {n : Nat} {xs : List Value} (h : W.ownsRow B e size v n xs) : ∃ a c, v = .slice a n c := by
  obtain ⟨h1, h2 | ⟨g, cap, cur, e1, e2⟩⟩ := h
  · exact ⟨none, 0, by rw [h2.1, h2.2]⟩
  · exact ⟨_, cap, e1⟩

theorem grown_ext {w W W' : World} {r : Option Nat} (h : w.Extends W) (hg : W.grownBy W' r) (hr : ∀ k, r = some k → w.heap.size ≤ k) : w.Extends W' := h.grown hg hr
theorem seg_in {C D : List Value} {o n p m : Nat} (h : seg C o n = D) (hp : p + m ≤ n) : seg C (o + p) m = seg D p m := by
  subst h
  unfold seg
  rw [List.drop_take, List.take_take, List.drop_drop, Nat.min_eq_left (by omega)]
theorem nth_in {C D : List Value} {o n j : Nat} {v : Value} (h : seg C o n = D) (hv : nth D j = some v) (hj : j < n) : nth C (o + j) = some v := by
  subst h
  unfold nth seg at *
  rw [List.getElem?_take, if_pos hj, List.getElem?_drop] at hv
  exact hv
/-- A row of things in memory. -/
def At {α : Type} (e : α → List Value) (sz : Nat) (W : World) (b o : Nat) (a : Option Addr) (n : Nat) (L : List α) : Prop :=
  L.length = n ∧ (n ≠ 0 → a = some ⟨b, o, none⟩ ∧ ∃ C, blk W b = some C ∧ o + n * sz ≤ C.length ∧ ∀ i x, L[i]? = some x → seg C (o + i * sz) sz = e x)
theorem At.mono {α : Type} {e : α → List Value} {sz : Nat} {W W' : World} {b o : Nat} {a : Option Addr} {n : Nat} {L : List α} (h : At e sz W b o a n L) (hb : n ≠ 0 → blk W' b = blk W b) : At e sz W' b o a n L := by
  refine ⟨h.1, fun h0 => ?_⟩
  obtain ⟨h1, C, h2, h3⟩ := h.2 h0
  exact ⟨h1, C, (hb h0).trans h2, h3⟩
theorem At.get {α : Type} {e : α → List Value} {sz : Nat} {W : World} {b o : Nat} {a : Option Addr} {n : Nat} {L : List α} (h : At e sz W b o a n L) {i : Nat} (hi : i < n) : ∃ x C, L[i]? = some x ∧ a = some ⟨b, o, none⟩ ∧ blk W b = some C ∧ o + n * sz ≤ C.length ∧ seg C (o + i * sz) sz = e x := by
  obtain ⟨h1, C, h2, h3, h4⟩ := h.2 (by omega)
  have hx : L[i]? = some (L[i]'(by rw [h.1]; exact hi)) := List.getElem?_eq_getElem _
  exact ⟨_, C, hx, h1, h2, h3, h4 i _ hx⟩
theorem seg_flatG {α : Type} (e : α → List Value) (sz : Nat) (hsz : ∀ x, (e x).length = sz) : ∀ (K : List α) (j : Nat) (x : α), K[j]? = some x → seg (K.flatMap e) (j * sz) sz = e x
  | [], j, x, h => by simp at h
  | y :: K, 0, x, h => by
    obtain rfl : y = x := by simpa using h
    rw [List.flatMap_cons]
    unfold seg
    rw [Nat.zero_mul, List.drop_zero, List.take_append_of_le_length (by rw [hsz]; omega)]
    exact List.take_of_length_le (by rw [hsz]; omega)
  | y :: K, j + 1, x, h => by
    have ih := seg_flatG e sz hsz K j x (by simpa using h)
    rw [List.flatMap_cons]
    unfold seg at ih ⊢
    rw [show (j + 1) * sz = (e y).length + j * sz by rw [hsz, Nat.add_mul]; omega, ← List.drop_drop, List.drop_left]
    exact ih
/-- An own row, as a row in memory. -/
theorem own_at {α : Type} {e : α → List Value} {sz : Nat} (hsz : ∀ x, (e x).length = sz) {B : Nat} {W : World} {ty : TypeId} {v : Value} {K : List α} (h : W.ownsRow B ty sz v K.length (K.flatMap e)) : ∃ a b c, v = .slice a K.length c ∧ c ≤ maxLen ∧ K.length ≤ c ∧ (K.length ≠ 0 → B ≤ b ∧ W.heap[b]?.map (fun o => match o with | .cells _ t z => (t, z) | _ => (0, (1, 1))) = some (ty, (0, 0))) ∧ At e sz W b 0 a K.length K ∧ (∀ k, v.ownBlock = some k → k = b) := by
  obtain ⟨h1, h2 | ⟨g, cap, cur, e1, e2, e3, e4, e5, e6, e7⟩⟩ := h
  · refine ⟨none, 0, 0, ?_, Nat.zero_le _, by rw [h2.2]; omega, fun h0 => absurd h2.2 h0, ⟨rfl, fun h0 => absurd h2.2 h0⟩, fun k hk => ?_⟩
    · rw [h2.1, h2.2]
    · rw [h2.1] at hk; simp [Value.ownBlock] at hk
  · refine ⟨_, g, cap, e1, e5, e4, fun _ => ⟨e2, by rw [e3]; rfl⟩, ⟨rfl, fun _ => ⟨rfl, cur.toList, blk_mk e3, ?_, fun i x hx => ?_⟩⟩, fun k hk => ?_⟩
    · have hcl : cur.toList.length = cap * sz := by rw [Array.length_toList]; exact e6
      have hle : K.length * sz ≤ cap * sz := Nat.mul_le_mul_right _ e4
      omega
    · have h3 := seg_flatG e sz hsz K i x hx
      have hi : i < K.length := (List.getElem?_eq_some_iff.1 hx).1
      rw [← e7] at h3
      rw [← h3, Nat.zero_add]
      unfold seg
      have hm : (i + 1) * sz ≤ K.length * sz := Nat.mul_le_mul_right _ hi
      rw [Nat.add_mul] at hm
      rw [List.drop_take, List.take_take, Nat.min_eq_left (by omega)]
    · rw [e1] at hk
      simp [Value.ownBlock] at hk
      exact hk.symm
/-- One thing appended to an own row. -/
theorem appG {α : Type} (en : α → List Value) (sz bytes : Nat) (t e : TypeId) (ht : Try.prog.underlying t = some (.slice e)) (hinfo : ∃ i z, Try.prog.info? e = some i ∧ i.zero = some z ∧ i.size = sz ∧ i.bytes = bytes ∧ z.cells.size = sz) (hln : ∀ x, (en x).length = sz) (hone : ∀ x, (en x).all (fun v => v.oneCell') = true) (hsz : 0 < sz) (hb1 : bytes ≤ 1000)
    (base : Nat) (w : World) (ty : TypeId) (v : Value) (K : List α) (x : α) (g c : Nat) (h : w.ownsRow base e sz v K.length (K.flatMap en)) (hg : blk w g = some (en x)) (hb : base ≤ w.heap.size) (hl : K.length ≤ 10000000000) :
    ∃ v' w', (Builtin.append_ #[t, t] ty #[v, .slice (some ⟨g, 0, none⟩) 1 c]).run Try.prog w = .ok v' w' ∧ w'.ownsRow base e sz v' (K ++ [x]).length ((K ++ [x]).flatMap en) ∧ w.grownBy w' v.ownBlock ∧ (v'.ownBlock = v.ownBlock ∨ v'.ownBlock = some w.heap.size) := by
  obtain ⟨i, z, hi, hz, hsz', hby, hzc⟩ := hinfo
  have hnews : ∀ j u, (en x)[j]? = some u → w.cell? ((⟨g, 0, none⟩ : Addr).add j) = some u := fun j u hu => by
    rw [add_addr, cell_blk hg, Nat.zero_add]
    exact hu
  have hone' : ∀ u ∈ en x, u.oneCell' = true := fun u hu => List.all_eq_true.1 (hone x) u hu
  have hby2 : (K.length + 1) * bytes ≤ 140737488355328 := Nat.le_trans (Nat.mul_le_mul (show K.length + 1 ≤ 10000000001 by omega) hb1) (by decide)
  obtain ⟨v', w', hr, h1, h2, _⟩ := run_append_own (P := Try.prog) w base t ty e i _ sz bytes ht hi hz hsz' hby hzc hsz v K.length _ h ⟨g, 0, none⟩ 1 c (en x) (by rw [hln]; omega) hnews hone' (by simp only [maxLen]; omega) hby2 hb
  refine ⟨v', w', hr, ?_, h2, ?_⟩
  · rw [List.length_append, List.flatMap_append]
    simpa using h1
  · exact append_block_gen (P := Try.prog) w base t ty e i _ sz bytes ht hi hz hsz' hby hzc hsz v K.length _ h ⟨g, 0, none⟩ 1 c (en x) (by rw [hln]; omega) hnews hone' (by simp only [maxLen]; omega) hby2 v' w' hr
theorem info61 : ∃ i z, Try.prog.info? 61 = some i ∧ i.zero = some z ∧ i.size = 3 ∧ i.bytes = 24 ∧ z.cells.size = 3 := by
  have hq : (Try.prog.info? 61).map (fun i => (i.zero, i.size, i.bytes)) = some (some (.agg (PredInfo.zero.enc).toArray), 3, 24) := by kernel_rfl
  cases hx : Try.prog.info? 61 with
  | none => rw [hx] at hq; simp at hq
  | some i =>
    rw [hx] at hq
    simp only [Option.map_some, Option.some.injEq, Prod.mk.injEq] at hq
    exact ⟨i, _, rfl, hq.1, hq.2.1, hq.2.2, by rfl⟩
theorem info52 : ∃ i z, Try.prog.info? 52 = some i ∧ i.zero = some z ∧ i.size = 10 ∧ i.bytes = 96 ∧ z.cells.size = 10 := by
  have hq : (Try.prog.info? 52).map (fun i => (i.zero, i.size, i.bytes)) = some (some (.agg (GRule.zero.enc).toArray), 10, 96) := by kernel_rfl
  cases hx : Try.prog.info? 52 with
  | none => rw [hx] at hq; simp at hq
  | some i =>
    rw [hx] at hq
    simp only [Option.map_some, Option.some.injEq, Prod.mk.injEq] at hq
    exact ⟨i, _, rfl, hq.1, hq.2.1, hq.2.2, by rfl⟩
theorem info103 : ∃ i z, Try.prog.info? 103 = some i ∧ i.zero = some z ∧ i.size = 3 ∧ i.bytes = 40 ∧ z.cells.size = 3 := by
  have hq : (Try.prog.info? 103).map (fun i => (i.zero, i.size, i.bytes)) = some (some (.agg (Plan.zero.enc).toArray), 3, 40) := by kernel_rfl
  cases hx : Try.prog.info? 103 with
  | none => rw [hx] at hq; simp at hq
  | some i =>
    rw [hx] at hq
    simp only [Option.map_some, Option.some.injEq, Prod.mk.injEq] at hq
    exact ⟨i, _, rfl, hq.1, hq.2.1, hq.2.2, by rfl⟩
theorem info106 : ∃ i z, Try.prog.info? 106 = some i ∧ i.zero = some z ∧ i.size = 4 ∧ i.bytes = 64 ∧ z.cells.size = 4 := by
  have hq : (Try.prog.info? 106).map (fun i => (i.zero, i.size, i.bytes)) = some (some (.agg (Job.zero.enc).toArray), 4, 64) := by kernel_rfl
  cases hx : Try.prog.info? 106 with
  | none => rw [hx] at hq; simp at hq
  | some i =>
    rw [hx] at hq
    simp only [Option.map_some, Option.some.injEq, Prod.mk.injEq] at hq
    exact ⟨i, _, rfl, hq.1, hq.2.1, hq.2.2, by rfl⟩
theorem info3 : ∃ i z, Try.prog.info? 3 = some i ∧ i.zero = some z ∧ i.size = 1 ∧ i.bytes = 8 ∧ z.cells.size = 1 := by
  have hq : (Try.prog.info? 3).map (fun i => (i.zero, i.size, i.bytes)) = some (some (.int .i64 0), 1, 8) := by kernel_rfl
  cases hx : Try.prog.info? 3 with
  | none => rw [hx] at hq; simp at hq
  | some i =>
    rw [hx] at hq
    simp only [Option.map_some, Option.some.injEq, Prod.mk.injEq] at hq
    exact ⟨i, _, rfl, hq.1, hq.2.1, hq.2.2, by rfl⟩
theorem info41 : ∃ i z, Try.prog.info? 41 = some i ∧ i.zero = some z ∧ i.size = 1 ∧ i.bytes = 8 ∧ z.cells.size = 1 := by
  have hq : (Try.prog.info? 41).map (fun i => (i.zero, i.size, i.bytes)) = some (some (.int .i64 0), 1, 8) := by kernel_rfl
  cases hx : Try.prog.info? 41 with
  | none => rw [hx] at hq; simp at hq
  | some i =>
    rw [hx] at hq
    simp only [Option.map_some, Option.some.injEq, Prod.mk.injEq] at hq
    exact ⟨i, _, rfl, hq.1, hq.2.1, hq.2.2, by rfl⟩
theorem info94 : ∃ i z, Try.prog.info? 94 = some i ∧ i.zero = some z ∧ i.size = 1 ∧ i.bytes = 8 ∧ z.cells.size = 1 := by
  have hq : (Try.prog.info? 94).map (fun i => (i.zero, i.size, i.bytes)) = some (some (.int .i64 0), 1, 8) := by kernel_rfl
  cases hx : Try.prog.info? 94 with
  | none => rw [hx] at hq; simp at hq
  | some i =>
    rw [hx] at hq
    simp only [Option.map_some, Option.some.injEq, Prod.mk.injEq] at hq
    exact ⟨i, _, rfl, hq.1, hq.2.1, hq.2.2, by rfl⟩
theorem info36 : ∃ i z, Try.prog.info? 36 = some i ∧ i.zero = some z ∧ i.size = 1 ∧ i.bytes = 24 ∧ z.cells.size = 1 := by
  have hq : (Try.prog.info? 36).map (fun i => (i.zero, i.size, i.bytes)) = some (some (.slice none 0 0), 1, 24) := by kernel_rfl
  cases hx : Try.prog.info? 36 with
  | none => rw [hx] at hq; simp at hq
  | some i =>
    rw [hx] at hq
    simp only [Option.map_some, Option.some.injEq, Prod.mk.injEq] at hq
    exact ⟨i, _, rfl, hq.1, hq.2.1, hq.2.2, by rfl⟩
end Go.Proofs.Qxb6500788a
