
import Derived.Test.Qxb6500787aGreatTf
import Derived.StillTailTactics
import Derived.Deep.QuietTactic
import Derived.BigQuiet
import Derived.Deep.RegionHeld
import Derived.Deep.CutRange
import Derived.Laws.ResultCell
import Derived.Laws.Rows
import Derived.DeepKeys
import Derived.DataBytes
import Derived.Laws.StructEq
import Derived.Laws.AppendOwn
import Derived.Laws.MakeOwn
import Derived.Lib.AppendStr
set_option linter.unusedSimpArgs false
set_option linter.unusedVariables false
namespace Go.Proofs.Qxb6500787aGreat
open Go.RowKit Go.Blk
attribute [local go_sem ↓] execOp_load execOp_store execOp_alloc
attribute [local go_sem] Tryz.ld26 Tryz.st26 Tryz.ld27 Tryz.st27 Tryz.ld28 Tryz.st28 Tryz.ld3 Tryz.st3 Tryz.ld29 Tryz.st29 Tryz.ld44 Tryz.st44 Tryz.ld4 Tryz.st4 Tryz.ld50 Tryz.st50 Tryz.ld32 Tryz.st32 Tryz.ld49 Tryz.st49 Tryz.ld68 Tryz.st68 Tryz.ld9 Tryz.st9 Tryz.ld40 Tryz.st40 Tryz.ld138 Tryz.st138 Tryz.ld139 Tryz.st139 Tryz.ld146 Tryz.st146 Tryz.ld183 Tryz.st183 Tryz.ld184 Tryz.st184 Tryz.ld192 Tryz.st192 Tryz.ld195 Tryz.st195 Tryz.ld217 Tryz.st217 Tryz.ld159 Tryz.st159 Tryz.ld142 Tryz.st142 Tryz.ld2 Tryz.st2 Tryz.ld5 Tryz.st5 Tryz.ld12 Tryz.st12 Tryz.ld21 Tryz.st21 Tryz.ld22 Tryz.st22 Tryz.ld24 Tryz.st24 Tryz.ld58 Tryz.st58 Tryz.ld97 Tryz.st97 Tryz.ld101 Tryz.st101 Tryz.ld116 Tryz.st116 Tryz.ld121 Tryz.st121 Tryz.ld135 Tryz.st135 Tryz.ld136 Tryz.st136 Tryz.ld143 Tryz.st143 Tryz.ld148 Tryz.st148 Tryz.ld154 Tryz.st154 Tryz.ld173 Tryz.st173 Tryz.ld187 Tryz.st187 Tryz.ld222 Tryz.st222 Tryz.ld241 Tryz.st241 Tryz.ld248 Tryz.st248 Tryz.ld268 Tryz.st268 Tryz.ld272 Tryz.st272 Tryz.ld153 Tryz.st153 Tryz.ld255 Tryz.st255 Tryz.ld256 Tryz.st256 Tryz.ld129 Tryz.st129 Tryz.ld152 Tryz.st152 Tryz.ld31 Tryz.st31 Tryz.ld46 Tryz.st46 Tryz.ld52 Tryz.st52 Tryz.ld54 Tryz.st54 Tryz.ld60 Tryz.st60 Tryz.ld70 Tryz.st70 Tryz.ld74 Tryz.st74 Tryz.ld93 Tryz.st93 Tryz.ld141 Tryz.st141 Tryz.ld151 Tryz.st151 Tryz.ld170 Tryz.st170 Tryz.ld186 Tryz.st186 Tryz.ld189 Tryz.st189 Tryz.ld194 Tryz.st194 Tryz.ld197 Tryz.st197 Tryz.ld219 Tryz.st219 Tryz.ld224 Tryz.st224 Tryz.ld230 Tryz.st230 Tryz.ld235 Tryz.st235 Tryz.ld243 Tryz.st243 Tryz.ld247 Tryz.st247 Tryz.ld252 Tryz.st252 Tryz.ld258 Tryz.st258 Tryz.al153 Tryz.al255 Tryz.al256 Tryz.al129 Tryz.al152 Tryz.al31 Tryz.al46 Tryz.al52 Tryz.al54 Tryz.al60 Tryz.al70 Tryz.al74 Tryz.al93 Tryz.al141 Tryz.al151 Tryz.al170 Tryz.al186 Tryz.al189 Tryz.al194 Tryz.al197 Tryz.al219 Tryz.al224 Tryz.al230 Tryz.al235 Tryz.al243 Tryz.al247 Tryz.al252 Tryz.al258
attribute [local go_sem] Request.length_enc Request.ok_enc Request.all_get Request.all_set Request.kind_get Request.kind_set Request.blob_get Request.blob_set Request.items_get Request.items_set Request.pred_get Request.pred_set Request.slots_get Request.slots_set Trace.length_enc Trace.ok_enc Trace.all_get Trace.all_set Trace.op_get Trace.op_set Trace.calls_get Trace.calls_set Item.length_enc Item.ok_enc Item.all_get Item.all_set Item.del_get Item.del_set Item.pred_get Item.pred_set Item.args_get Item.args_set Reply.length_enc Reply.ok_enc Reply.all_get Reply.all_set Reply.code_get Reply.code_set Reply.kind_get Reply.kind_set Reply.index_get Reply.index_set Reply.yes_get Reply.yes_set Reply.preds_get Reply.preds_set Reply.rules_get Reply.rules_set Reply.arity_get Reply.arity_set Reply.rows_get Reply.rows_set Reply.fact_get Reply.fact_set Reply.fact_del_get Reply.fact_del_set Reply.fact_pred_get Reply.fact_pred_set Reply.fact_args_get Reply.fact_args_set GEntry.length_enc GEntry.ok_enc GEntry.all_get GEntry.all_set GEntry.seq_get GEntry.seq_set GEntry.kind_get GEntry.kind_set GEntry.code_get GEntry.code_set GOp.length_enc GOp.ok_enc GOp.all_get GOp.all_set GOp.kind_get GOp.kind_set GOp.raw_get GOp.raw_set Reader.length_enc Reader.ok_enc Reader.all_get Reader.all_set Reader.buf_get Reader.buf_set Reader.at__get Reader.at__set Slot.length_enc Slot.ok_enc Slot.all_get Slot.all_set Slot.bound_get Slot.bound_set Slot.name_get Slot.name_set Session.length_enc Session.ok_enc Session.all_get Session.all_set Session.svc_get Session.svc_set Session.buf_get Session.buf_set Session.closed_get Session.closed_set GProgram.length_enc GProgram.ok_enc GProgram.all_get GProgram.all_set GProgram.pool_get GProgram.pool_set GProgram.preds_get GProgram.preds_set GProgram.rules_get GProgram.rules_set GProgram.strata_get GProgram.strata_set PredInfo.length_enc PredInfo.ok_enc PredInfo.all_get PredInfo.all_set PredInfo.arity_get PredInfo.arity_set PredInfo.base_get PredInfo.base_set PredInfo.stratum_get PredInfo.stratum_set Change.length_enc Change.ok_enc Change.all_get Change.all_set Change.del_get Change.del_set Change.pred_get Change.pred_set Change.t_get Change.t_set Store.length_enc Store.ok_enc Store.all_get Store.all_set Store.names_get Store.names_set Store.arity_get Store.arity_set Store.rows_get Store.rows_set Src.length_enc Src.ok_enc Src.all_get Src.all_set Src.b_get Src.b_set Src.at__get Src.at__set Atom.length_enc Atom.ok_enc Atom.all_get Atom.all_set Atom.pred_get Atom.pred_set Atom.args_get Atom.args_set GRule.length_enc GRule.ok_enc GRule.all_get GRule.all_set GRule.head_get GRule.head_set GRule.body_get GRule.body_set GRule.head_pred_get GRule.head_pred_set GRule.head_args_get GRule.head_args_set Cert.length_enc Cert.ok_enc Cert.all_get Cert.all_set Cert.names_get Cert.names_set Cert.nodes_get Cert.nodes_set Fact.length_enc Fact.ok_enc Fact.all_get Fact.all_set Fact.pred_get Fact.pred_set Fact.t_get Fact.t_set Literal.length_enc Literal.ok_enc Literal.all_get Literal.all_set Literal.neg_get Literal.neg_set Literal.atom_get Literal.atom_set Literal.atom_pred_get Literal.atom_pred_set Literal.atom_args_get Literal.atom_args_set Engine.length_enc Engine.ok_enc Engine.all_get Engine.all_set Engine.prog_get Engine.prog_set Engine.st_get Engine.st_set SrcCertm.length_enc SrcCertm.ok_enc SrcCertm.all_get SrcCertm.all_set SrcCertm.b_get SrcCertm.b_set SrcCertm.at__get SrcCertm.at__set GNode.length_enc GNode.ok_enc GNode.all_get GNode.all_set GNode.rule_get GNode.rule_set GNode.pred_get GNode.pred_set GNode.vals_get GNode.vals_set GNode.refs_get GNode.refs_set Term.length_enc Term.ok_enc Term.all_get Term.all_set Term.var_get Term.var_set Term.n_get Term.n_set Env.length_enc Env.ok_enc Env.all_get Env.all_set Env.val_get Env.val_set Env.set_get Env.set_set
attribute [local go_sem] size_put size_ext blk_put free_put blk_alloc free_alloc blk_drew free_drew blk_ext free_ext lookOr_some putOr_some segAt_some cellAt_some storeIn_some put_put put_alloc_new length_arr ok_arr_u8 ok_arr_u32 ok_arr_u64 ok_arr_i64 ok_arr_sl cellsV_agg cellsV_int cellsV_bool cellsV_string cellsV_pointer cellsV_slice cellsV_sl ok_int ok_bool ok_string ok_pointer ok_slice ok_sl toList_arr seg_arr set_arr nth_splice nth_splice0 seg_splice seg_splice0 splice_splice splice_splice0 length_splice_if
attribute [local go_sem ↓] execOp_box
attribute [local go_sem] box_run nth_arr_u8 put_arr_u8 blk_drewN free_drewN put_drewN blk_raw free_raw
theorem wp_cutR {P : Program} {c : Code} {Qx : Exit → Act → World → Prop} {a : Act} {w : World} (R : Act → Act → World → Prop) (h1 : Code.wp P c (fun x a' w' => x = .normal ∧ R a a' w') a w) (h2 : ∀ a' w', R a a' w' → Qx .normal a' w') : Code.wp P c Qx a w :=
  Code.wp_mono (fun x a' w' h => by obtain ⟨rfl, h⟩ := h; exact h2 a' w' h) h1
theorem frame_of {n : Nat} (arr : Array Value) (h : arr.size = n) : arr = frameN n (fun k => arr.getD k undef) := by
  subst h
  apply Array.ext
  · simp [frameN]
  · intro i h1 h2
    simp [frameN, Array.getD, h1]
theorem cut_intro {n : Nat} {P : (Nat → Value) → Prop} (arr : Array Value) (h : arr.size = n) (hP : P (fun k => arr.getD k undef)) : ∃ f, (⟨arr, []⟩ : Act) = ⟨frameN n f, []⟩ ∧ P f := ⟨_, by rw [← frame_of arr h], hP⟩
/-- What may happen while a row v of one's own becomes v': only its block is written, or a new one is made. -/
structure Gro (W W' : World) (v v' : Value) : Prop where
  size : W.heap.size ≤ W'.heap.size
  block : ∀ k, k < W.heap.size → v.ownBlock ≠ some k → W'.heap[k]? = W.heap[k]?
  own : ∀ k, v'.ownBlock = some k → v.ownBlock = some k ∨ W.heap.size ≤ k
theorem Gro.refl (W : World) (v : Value) : Gro W W v v := ⟨Nat.le_refl _, fun _ _ _ => rfl, fun _ h => .inl h⟩
theorem Gro.of_ext {W W' : World} (h : W.Extends W') (v : Value) : Gro W W' v v := ⟨h.size, fun k hk _ => h.block k hk, fun _ h => .inl h⟩
theorem Gro.trans {W W' W'' : World} {v v' v'' : Value} (h : Gro W W' v v') (h' : Gro W' W'' v' v'') : Gro W W'' v v'' := by
  refine ⟨Nat.le_trans h.size h'.size, fun k hk hn => ?_, fun k hk => ?_⟩
  · have hn' : v'.ownBlock ≠ some k := fun e => by
      rcases h.own k e with e | e
      · exact hn e
      · omega
    exact (h'.block k (Nat.lt_of_lt_of_le hk h.size) hn').trans (h.block k hk hn)
  · rcases h'.own k hk with e | e
    · exact h.own k e
    · exact .inr (Nat.le_trans h.size e)
theorem Gro.blk {W W' : World} {v v' : Value} (h : Gro W W' v v') {k : Nat} {C : List Value} (hb : blk W k = some C) (hn : v.ownBlock ≠ some k) : Blk.blk W' k = some C ∧ v'.ownBlock ≠ some k := by
  refine ⟨(blk_of_heap (h.block k (blk_lt hb) hn)).trans hb, fun e => ?_⟩
  rcases h.own k e with e | e
  · exact hn e
  · have := blk_lt hb; omega
theorem Outs.app2 {W V : World} {a : Option Addr} {n c : Nat} {ts : List Tup} (h : Outs W V a n c ts) (t : Tup) (hl : ts.length ≤ 10000000000) :
    ∃ a' c' V', (Builtin.append_ #[257, 257] 257 #[.slice a n c, .slice (some ⟨V.heap.size, 0, none⟩) 1 1]).run Tryz.prog (V.alloc (.cells (arr i64v t).toArray 214)) = .ok (.slice a' (n + 1) c') V' ∧ Outs W V' a' (n + 1) c' (ts ++ [t]) ∧ Gro V V' (.slice a n c) (.slice a' (n + 1) c') := by
  have hx1 : V.Extends (V.alloc (.cells (arr i64v t).toArray 214)) := extends_alloc (ext_Ext (Ext.refl _)) _
  have h1 := h.ext hx1
  obtain ⟨v', V', hr, ho, hg, hbk⟩ := appG tpl 4 32 257 214 Tryz.underlying257 info153 tpl_len tpl_one (by omega) (by omega) W.heap.size (V.alloc (.cells (arr i64v t).toArray 214)) 148 (.slice a n c) ts t V.heap.size 1 h1.1 ((blk_alloc _ _ _ _).trans (if_pos rfl)) h1.2.1.size (by omega)
  obtain ⟨a', c', rfl⟩ := row_val ho
  have hm : (ts ++ [t]).length = n + 1 := by rw [List.length_append, List.length_singleton, h.2.2]
  rw [hm] at hr hbk
  refine ⟨a', c', V', hr, ⟨by rw [← hm]; exact ho, grown_ext h1.2.1 hg (fun k hk => (row_at h1.1 k hk).1), hm.symm⟩, ?_⟩
  refine ⟨Nat.le_trans hx1.size hg.size, fun k hk hn => (hg.block k (Nat.lt_of_lt_of_le hk hx1.size) (fun e => hn e.symm)).trans (hx1.block k hk), fun k hk => ?_⟩
  rcases hbk with hbk | hbk
  · exact .inl (hbk ▸ hk)
  · right
    rw [hbk] at hk
    have := (Option.some.inj hk).symm
    have := hx1.size
    omega
/-- A tuple whose columns are constants. -/
def TOk (t : Tup) : Prop := ∀ c, c < 4 → 0 ≤ tg t c ∧ tg t c < 256
theorem nodup_bound : ∀ (n : Nat) (L : List Nat), L.Nodup → (∀ x ∈ L, x < n) → L.length ≤ n
  | 0, L, _, h => by
    cases L with
    | nil => exact Nat.le_refl _
    | cons x L => exact absurd (h x (List.mem_cons_self ..)) (Nat.not_lt_zero _)
  | n + 1, L, hN, h => by
    by_cases hm : n ∈ L
    · have ih := nodup_bound n (L.erase n) (hN.erase n) (fun x hx => by
        have h1 := h x (List.mem_of_mem_erase hx)
        have h2 : x ≠ n := fun e => by subst e; exact (List.Nodup.not_mem_erase hN) hx
        omega)
      rw [List.length_erase_of_mem hm] at ih
      omega
    · have ih := nodup_bound n L hN (fun x hx => by
        have h1 := h x hx
        have h2 : x ≠ n := fun e => by subst e; exact hm hx
        omega)
      omega
def tcode (t : Tup) : Nat := (tg t 0).toNat + 256 * (tg t 1).toNat + 65536 * (tg t 2).toNat + 16777216 * (tg t 3).toNat
theorem tcode_lt {t : Tup} (h : TOk t) : tcode t < 4294967296 := by
  obtain ⟨a0, a1⟩ := h 0 (by omega)
  obtain ⟨b0, b1⟩ := h 1 (by omega)
  obtain ⟨c0, c1⟩ := h 2 (by omega)
  obtain ⟨d0, d1⟩ := h 3 (by omega)
  unfold tcode
  omega
theorem tcode_inj {t u : Tup} (h : TOk t) (h' : TOk u) (e : tcode t = tcode u) : t = u := by
  obtain ⟨a0, a1⟩ := h 0 (by omega)
  obtain ⟨b0, b1⟩ := h 1 (by omega)
  obtain ⟨c0, c1⟩ := h 2 (by omega)
  obtain ⟨d0, d1⟩ := h 3 (by omega)
  obtain ⟨a2, a3⟩ := h' 0 (by omega)
  obtain ⟨b2, b3⟩ := h' 1 (by omega)
  obtain ⟨c2, c3⟩ := h' 2 (by omega)
  obtain ⟨d2, d3⟩ := h' 3 (by omega)
  unfold tcode at e
  apply tg_ext
  intro c hc
  have h0 : tg t 0 = tg u 0 := by omega
  have h1 : tg t 1 = tg u 1 := by omega
  have h2 : tg t 2 = tg u 2 := by omega
  have h3 : tg t 3 = tg u 3 := by omega
  match c, hc with
  | 0, _ => exact h0
  | 1, _ => exact h1
  | 2, _ => exact h2
  | 3, _ => exact h3
theorem nodup_map_on {α β : Type} {f : α → β} : ∀ {L : List α}, L.Nodup → (∀ x ∈ L, ∀ y ∈ L, f x = f y → x = y) → (L.map f).Nodup
  | [], _, _ => List.nodup_nil
  | x :: L, hN, h => by
    rw [List.nodup_cons] at hN
    rw [List.map_cons, List.nodup_cons]
    refine ⟨fun hm => ?_, nodup_map_on hN.2 (fun a ha b hb => h a (List.mem_cons_of_mem _ ha) b (List.mem_cons_of_mem _ hb))⟩
    obtain ⟨y, hy, e⟩ := List.mem_map.1 hm
    have := h y (List.mem_cons_of_mem _ hy) x (List.mem_cons_self ..) e
    subst this
    exact hN.1 hy
def OutOk (L : List Tup) : Prop := L.Nodup ∧ ∀ t ∈ L, TOk t
theorem OutOk.len {L : List Tup} (h : OutOk L) : L.length ≤ 4294967296 := by
  have := nodup_bound 4294967296 (L.map tcode) (nodup_map_on h.1 (fun x hx y hy e => tcode_inj (h.2 x hx) (h.2 y hy) e)) (fun x hx => by
    obtain ⟨t, ht, rfl⟩ := List.mem_map.1 hx
    exact tcode_lt (h.2 t ht))
  rwa [List.length_map] at this
theorem outOk_nil : OutOk [] := ⟨List.nodup_nil, fun _ h => by cases h⟩
def addT (L : List Tup) (t : Tup) : List Tup := if t ∈ L then L else L ++ [t]
theorem OutOk.add {L : List Tup} (h : OutOk L) {t : Tup} (ht : TOk t) : OutOk (addT L t) := by
  unfold addT
  by_cases hm : t ∈ L
  · rw [if_pos hm]; exact h
  · rw [if_neg hm]
    refine ⟨List.nodup_append.2 ⟨h.1, by simp, fun a ha b hb e => ?_⟩, fun x hx => ?_⟩
    · rw [List.mem_singleton] at hb; subst hb; subst e; exact hm ha
    · rcases List.mem_append.1 hx with hx | hx
      · exact h.2 x hx
      · rw [List.mem_singleton.1 hx]; exact ht
theorem mem_addT {L : List Tup} {t x : Tup} : x ∈ addT L t ↔ x ∈ L ∨ x = t := by
  unfold addT
  by_cases hm : t ∈ L
  · rw [if_pos hm]
    exact ⟨.inl, fun h => h.elim id (fun e => e ▸ hm)⟩
  · rw [if_neg hm, List.mem_append, List.mem_singleton]
def rowsAt (S : List (List Tup)) (r : Nat) : List Tup := S.getD r []
/-- A literal, plainly. -/
structure PL where
  neg : Bool
  atom : PA
/-- A rule, plainly. -/
structure PR where
  head : PA
  body : List PL
/-- An atom under a substitution. -/
def gA (a : PA) (e : Env) : Tup := gT a e a.args.length
/-- No negated literal is in its relation. -/
def negs (S : List (List Tup)) (Z : List PL) (e : Env) : Bool := Z.all fun z => !(z.neg && decide (gA z.atom e ∈ rowsAt S z.atom.pred))
/-- Matching, plainly. -/
def goM (S : List (List Tup)) (Z0 : List PL) (hd : PA) : List PL → Env → List Tup → List Tup
  | [], e, out => if negs S Z0 e then addT out (gA hd e) else out
  | z :: Z, e, out => if z.neg then goM S Z0 hd Z e out else (rowsAt S z.atom.pred).foldl (fun out row => match uniF z.atom row z.atom.args.length e with | some e' => goM S Z0 hd Z e' out | none => out) out
/-- One row of one literal. -/
def stM (S : List (List Tup)) (Z0 : List PL) (hd : PA) (z : PL) (Z : List PL) (e : Env) (out : List Tup) (row : Tup) : List Tup := match uniF z.atom row z.atom.args.length e with | some e' => goM S Z0 hd Z e' out | none => out
theorem goM_cons (S : List (List Tup)) (Z0 : List PL) (hd : PA) (z : PL) (Z : List PL) (e : Env) (out : List Tup) : goM S Z0 hd (z :: Z) e out = if z.neg then goM S Z0 hd Z e out else (rowsAt S z.atom.pred).foldl (stM S Z0 hd z Z e) out := rfl
/-- All values are constants. -/
def EOk (e : Env) : Prop := ∀ v, v < 32 → 0 ≤ eV e v ∧ eV e v < 256
theorem EOk.up {e : Env} (h : EOk e) (v : Nat) {x : Int} (hx : 0 ≤ x ∧ x < 256) : EOk (eU e v x) := by
  intro w hw
  by_cases hv : v < 32
  · rw [eV_eU e hv]
    by_cases h1 : w = v
    · rw [if_pos h1]; exact hx
    · rw [if_neg h1]; exact h w hw
  · unfold eU
    rw [dif_neg hv]; exact h w hw
theorem eok_zero : EOk Env.zero := by
  intro v hv
  rw [eV_at _ hv]
  simp [Env.zero]
theorem EOk.uni {a : PA} {row : Tup} (hr : TOk row) : ∀ {c : Nat} {e e' : Env}, c ≤ 4 → EOk e → uniF a row c e = some e' → EOk e'
  | 0, e, e', _, he, h => by injection h with h; rw [← h]; exact he
  | c + 1, e, e', hc, he, h => by
    have h' : (uniF a row c e).bind (uniS a row c) = some e' := h
    obtain ⟨e1, h1, h2⟩ := Option.bind_eq_some_iff.1 h'
    have ih := EOk.uni hr (by omega) he h1
    unfold uniS at h2
    by_cases hv : (tA a c).var = true
    · rw [if_pos hv] at h2
      by_cases hb : eS e1 (tA a c).n.toNat = true ∧ ¬ eV e1 (tA a c).n.toNat = tg row c
      · rw [if_pos hb] at h2; cases h2
      · rw [if_neg hb] at h2
        injection h2 with h2
        rw [← h2]
        exact ih.up _ (hr c (by omega))
    · rw [if_neg hv] at h2
      by_cases hb : (tA a c).n = tg row c
      · rw [if_pos hb] at h2; injection h2 with h2; rw [← h2]; exact ih
      · rw [if_neg hb] at h2; cases h2
theorem gT_ok {a : PA} (hf : Fit a) {e : Env} (he : EOk e) : TOk (gA a e) := by
  intro c hc
  unfold gA
  rw [tg_gT a e _ c hc]
  by_cases h : c < a.args.length
  · rw [if_pos h]
    obtain ⟨h0, h1, h2⟩ := hf.2 c h
    unfold valT
    by_cases hv : (tA a c).var = true
    · rw [if_pos hv]
      exact he _ (by have := h1 hv; omega)
    · rw [if_neg hv]
      exact ⟨h0, h2 (by simpa using hv)⟩
  · rw [if_neg h]; omega
/-- The rows are lists of constants without repetition. -/
def SOk (S : List (List Tup)) : Prop := ∀ L ∈ S, OutOk L
theorem SOk.at {S : List (List Tup)} (h : SOk S) (r : Nat) : OutOk (rowsAt S r) := by
  unfold rowsAt
  rw [List.getD_eq_getElem?_getD]
  cases hr : S[r]? with
  | none => exact outOk_nil
  | some L => exact h L (List.mem_of_getElem? hr)
def ZFit (Z : List PL) : Prop := ∀ z ∈ Z, Fit z.atom
theorem goM_ok {S : List (List Tup)} {Z0 : List PL} {hd : PA} (hS : SOk S) (hh : Fit hd) : ∀ (Z : List PL) (e : Env) (out : List Tup), ZFit Z → EOk e → OutOk out → OutOk (goM S Z0 hd Z e out)
  | [], e, out, _, he, ho => by
    show OutOk (if negs S Z0 e then addT out (gA hd e) else out)
    by_cases hn : negs S Z0 e = true
    · rw [if_pos hn]; exact ho.add (gT_ok hh he)
    · rw [if_neg hn]; exact ho
  | z :: Z, e, out, hz, he, ho => by
    rw [goM_cons]
    have hz' : ZFit Z := fun x hx => hz x (List.mem_cons_of_mem _ hx)
    by_cases hn : z.neg = true
    · rw [if_pos hn]; exact goM_ok hS hh Z e out hz' he ho
    · rw [if_neg hn]
      have hr := (hS.at z.atom.pred).2
      have key : ∀ (rows : List Tup) (out : List Tup), (∀ t ∈ rows, TOk t) → OutOk out → OutOk (rows.foldl (stM S Z0 hd z Z e) out) := by
        intro rows
        induction rows with
        | nil => intro out _ ho; exact ho
        | cons row rows ih =>
          intro out hr ho
          rw [List.foldl_cons]
          refine ih _ (fun t ht => hr t (List.mem_cons_of_mem _ ht)) ?_
          unfold stM
          cases hu : uniF z.atom row z.atom.args.length e with
          | none => exact ho
          | some e' => exact goM_ok hS hh Z e' out hz' (EOk.uni (hr row (List.mem_cons_self ..)) (hz z (List.mem_cons_self ..)).1 he hu) ho
      exact key _ out hr ho
theorem stM_ok {S : List (List Tup)} {Z0 : List PL} {hd : PA} (hS : SOk S) (hh : Fit hd) {z : PL} {Z : List PL} (hz : ZFit (z :: Z)) {e : Env} (he : EOk e) : ∀ (rows : List Tup) (out : List Tup), (∀ t ∈ rows, TOk t) → OutOk out → OutOk (rows.foldl (stM S Z0 hd z Z e) out) := by
  intro rows
  induction rows with
  | nil => intro out _ ho; exact ho
  | cons row rows ih =>
    intro out hr ho
    rw [List.foldl_cons]
    refine ih _ (fun t ht => hr t (List.mem_cons_of_mem _ ht)) ?_
    unfold stM
    cases hu : uniF z.atom row z.atom.args.length e with
    | none => exact ho
    | some e' => exact goM_ok hS hh Z e' out (fun x hx => hz x (List.mem_cons_of_mem _ hx)) (EOk.uni (hr row (List.mem_cons_self ..)) (hz z (List.mem_cons_self ..)).1 he hu) ho
/-- Rows of rows in memory. -/
def RelR (W : World) (a : Option Addr) (n : Nat) (R : List (List Tup)) : Prop := ∃ Ds : List Sl, Rw encD1 1 W a n Ds ∧ Ds.length = R.length ∧ ∀ (q : Nat) (d : Sl) (rows : List Tup), Ds[q]? = some d → R[q]? = some rows → Rw tpl 4 W d.a d.len rows
theorem RelR.sub {W W' : World} {a : Option Addr} {n : Nat} {R : List (List Tup)} (h : RelR W a n R) (hs : Sub W W') : RelR W' a n R := by
  obtain ⟨Ds, h1, h2, h3⟩ := h
  exact ⟨Ds, h1.sub hs, h2, fun q d rows hd hr => (h3 q d rows hd hr).sub hs⟩
theorem RelR.ext {W W' : World} {a : Option Addr} {n : Nat} {R : List (List Tup)} (h : RelR W a n R) (hs : W.Extends W') : RelR W' a n R := h.sub (Sub.ext hs)
theorem RelR.len {W : World} {a : Option Addr} {n : Nat} {R : List (List Tup)} (h : RelR W a n R) : n = R.length := by
  obtain ⟨Ds, h1, h2, h3⟩ := h
  rw [← h2]; exact h1.1.symm
theorem RelR.at {W : World} {a : Option Addr} {n : Nat} {R : List (List Tup)} (h : RelR W a n R) {q : Nat} {rows : List Tup} (hq : R[q]? = some rows) : ∃ b C ra rc, a = some ⟨b, 0, none⟩ ∧ blk W b = some C ∧ q < C.length ∧ nth C q = some (.slice ra rows.length rc) ∧ Rw tpl 4 W ra rows.length rows := by
  obtain ⟨Ds, h1, h2, h3⟩ := h
  obtain ⟨d, hd⟩ : ∃ d, Ds[q]? = some d := ⟨_, List.getElem?_eq_getElem (by rw [h2]; exact (List.getElem?_eq_some_iff.1 hq).1)⟩
  have h4 := h3 q d rows hd hq
  obtain ⟨b, C, g1, g2, g3, g4, g5⟩ := rw_cell (v := Sl.val d) h1 hd rfl
  have h5 : rows.length = d.len := h4.1
  rw [← h5] at h4
  refine ⟨b, C, d.a, d.cap, g1, g2, g3, ?_, h4⟩
  rw [g5]
  show some (Value.slice d.a d.len d.cap) = _
  rw [h5]
/-- Some relation holds more than 512 rows. -/
def overB (R : List (List Tup)) : Bool := R.any fun L => decide (512 < L.length)
/-- member -/
def meI (W0 : World) (a : Option Addr) (n c b3 : Nat) (L : List Tup) (t : Tup) (f : Nat → Value) (W : World) : Prop := f 0 = .slice a n c ∧ f 3 = .pointer (some ⟨b3, 0, none⟩) ∧ Hid (∃ k, W = W0.drewN k) ∧ ∃ i : Nat, i ≤ n ∧ f 5 = .int .i64 (i : Nat) ∧ Hid (∀ j, j < i → L[j]? ≠ some t)
attribute [local go_sem] eql153 neq153
attribute [local go_sem ↓] execOp_eql153 execOp_neq153
set_option maxRecDepth 100000 in
theorem frame18m (f : Nat → Value) : frameN 18 f = #[f 0, f 1, f 2, f 3, f 4, f 5, f 6, f 7, f 8, f 9, f 10, f 11, f 12, f 13, f 14, f 15, f 16, f 17] := by kernel_rfl
set_option maxRecDepth 20000 in
set_option maxHeartbeats 4000000 in
theorem member_any (W : World) (a : Option Addr) (n c : Nat) (L : List Tup) (hw : Rw tpl 4 W a n L) (hn : n ≤ 10000000000) (t : Tup) : Calls Tryz.prog 170 #[.slice a n c, .agg (arr i64v t).toArray] W fun e W' => e = .returned (.bool (decide (t ∈ L))) ∧ W.Extends W' := by
  obtain ⟨res, hres⟩ : ∃ res, res = decide (t ∈ L) := ⟨_, rfl⟩
  rw [← hres]
  have HRES := hid_of hres
  have HW0 := hid_of hw
  clear hres hw
  go_enter Tryz.func170, Tryz.ntmps170
  go_upto_region 1 with fail
  refine wp_world (fun W0 => blk W0 W.heap.size = some (arr i64v t) ∧ W.Extends W0) ⟨?_, extends_alloc (ext_Ext (Ext.refl _)) _⟩ ?_
  · rw [blk_alloc, if_pos rfl]
  rintro W1 ⟨hb3, hx1⟩
  obtain ⟨b3, e3⟩ : ∃ b3, b3 = W.heap.size := ⟨_, rfl⟩
  rw [← e3] at hb3 ⊢
  have HX := hid_of hx1
  have hw1 := HW0.out.ext' hx1
  have HW := hid_of hw1
  have HKM := hid_of hb3
  clear e3 hx1 hb3 hw1
  go_wp2_with fail
  have HK0 : Hid (∃ k, W1 = W1.drewN k) := ⟨0, rfl⟩
  refine wp_loop_f 18 (meI W1 a n c b3 L t) (fun f _ => n - (intOf (f 5)).toNat) rfl ⟨rfl, rfl, HK0, 0, by omega, rfl, fun j h => absurd h (Nat.not_lt_zero _)⟩ ?_
  clear HK0
  intro F W2 hrel
  obtain ⟨f0, f3, HK, i, hi, f5, HQ⟩ := hrel
  have H5 := hid_of f5
  rw [frame18m, f0, f3, f5]
  clear f0 f3 f5
  obtain ⟨k0, hV⟩ := HK.out
  have hb3 : blk W2 b3 = some (arr i64v t) := by rw [hV, blk_drewN]; exact HKM.out
  by_cases hin : i < n
  · have hin' : (i : Int) < (n : Int) := by omega
    obtain ⟨x, hx⟩ : ∃ x, L[i]? = some x := ⟨_, List.getElem?_eq_getElem (by rw [HW.out.1]; exact hin)⟩
    obtain ⟨bn, Cn, rfl, hCn, hcn, _, un⟩ := tup_at (HW.out.drewN k0) hx
    rw [← hV] at hCn
    have p0 : (0 : Int) ≤ (i : Int) := by omega
    have p2 : ((i : Int)).toNat = i := by omega
    have p5 : i * 4 < Cn.length := by omega
    have HK' : Hid (∃ k, W2.drew = W1.drewN k) := ⟨k0 + 1, by rw [hV]; rfl⟩
    have HXE : Hid (W.Extends W2.drew) := by show W.Extends W2.drew; rw [hV]; exact extends_drew (extends_drewN HX.out _)
    by_cases he : x = t
    · have hrs : res = true := by
        rw [HRES.out]
        subst he
        exact decide_eq_true (List.mem_of_getElem? hx)
      subst he
      have htt : decide (x = x) = true := by simp
      clear HQ hx HRES hV HK HK'
      subst hrs
      go_upto_region 4 with fail
      refine wp_region_held_drew (S := fun W' => blk W' b3 = some (arr i64v x) ∧ blk W' bn = some Cn) (by kernel_rfl) ⟨hb3, hCn⟩ (fun hHeld => ?_)
      refine wpAnyH_take (i := 0) (oi := ⟨_, _, _, _, _, _⟩) (v := ?_) rfl (by kernel_rfl) (by kernel_rfl) (by kernel_rfl) (fun _ _ _ h => h) (Or.inl ⟨by rfl, ?_⟩) (by assumption) ?_
      rotate_left 1
      · intro W' hSw
        obtain ⟨hS1, hS2⟩ := hSw
        go_simp
        try with_reducible rfl
      try simp only [Act.put, List.setIfInBounds_toArray, List.set_cons_zero, List.set_cons_succ]
      refine wpAnyH_take (i := 1) (oi := ⟨_, _, _, _, _, _⟩) (v := ?_) rfl (by kernel_rfl) (by kernel_rfl) (by kernel_rfl) (fun _ _ _ h => h) (Or.inl ⟨by rfl, ?_⟩) (by assumption) ?_
      rotate_left 1
      · intro W' hSw
        obtain ⟨hS1, hS2⟩ := hSw
        go_simp
        try with_reducible rfl
      try simp only [Act.put, List.setIfInBounds_toArray, List.set_cons_zero, List.set_cons_succ]
      refine wpAnyH_take (i := 2) (oi := ⟨_, _, _, _, _, _⟩) (v := ?_) rfl (by kernel_rfl) (by kernel_rfl) (by kernel_rfl) (fun _ _ _ h => h) (Or.inl ⟨by rfl, ?_⟩) (by assumption) ?_
      rotate_left 1
      · intro W' hSw
        obtain ⟨hS1, hS2⟩ := hSw
        go_simp
        try with_reducible rfl
      try simp only [Act.put, List.setIfInBounds_toArray, List.set_cons_zero, List.set_cons_succ]
      refine wpAnyH_take (i := 3) (oi := ⟨_, _, _, _, _, _⟩) (v := ?_) rfl (by kernel_rfl) (by kernel_rfl) (by kernel_rfl) (fun _ _ _ h => h) (Or.inl ⟨by rfl, ?_⟩) (by assumption) ?_
      rotate_left 1
      · intro W' hSw
        obtain ⟨hS1, hS2⟩ := hSw
        go_simp
        try with_reducible rfl
      try simp only [Act.put, List.setIfInBounds_toArray, List.set_cons_zero, List.set_cons_succ]
      refine wpAnyH_take (i := 4) (oi := ⟨_, _, _, _, _, _⟩) (v := ?_) rfl (by kernel_rfl) (by kernel_rfl) (by kernel_rfl) (fun _ _ _ h => h) (Or.inl ⟨by rfl, ?_⟩) (by assumption) ?_
      rotate_left 1
      · intro W' hSw
        obtain ⟨hS1, hS2⟩ := hSw
        go_simp
        try with_reducible rfl
      try simp only [Act.put, List.setIfInBounds_toArray, List.set_cons_zero, List.set_cons_succ]
      refine wpAnyH_take (i := 5) (oi := ⟨_, _, _, _, _, _⟩) (v := ?_) rfl (by kernel_rfl) (by kernel_rfl) (by kernel_rfl) (fun _ _ _ h => h) (Or.inl ⟨by rfl, ?_⟩) (by assumption) ?_
      rotate_left 1
      · intro W' hSw
        obtain ⟨hS1, hS2⟩ := hSw
        go_simp
        try with_reducible rfl
      try simp only [Act.put, List.setIfInBounds_toArray, List.set_cons_zero, List.set_cons_succ]
      refine wpAnyH_done (by kernel_rfl) ?_ _
      go_wp2_with fail
      go_ret
      exact ⟨rfl, HXE.out⟩
    · have HQ' : Hid (∀ j, j < i + 1 → L[j]? ≠ some t) := by
        intro j h1
        by_cases h3 : j = i
        · subst h3
          rw [hx]
          intro e; exact he (Option.some.inj e)
        · exact HQ.out j (by omega)
      have hde : decide (x = t) = false := decide_eq_false he
      clear HQ hx hV HK HXE
      go_upto_region 4 with fail
      refine wp_region_held_drew (S := fun W' => blk W' b3 = some (arr i64v t) ∧ blk W' bn = some Cn) (by kernel_rfl) ⟨hb3, hCn⟩ (fun hHeld => ?_)
      refine wpAnyH_take (i := 0) (oi := ⟨_, _, _, _, _, _⟩) (v := ?_) rfl (by kernel_rfl) (by kernel_rfl) (by kernel_rfl) (fun _ _ _ h => h) (Or.inl ⟨by rfl, ?_⟩) (by assumption) ?_
      rotate_left 1
      · intro W' hSw
        obtain ⟨hS1, hS2⟩ := hSw
        go_simp
        try with_reducible rfl
      try simp only [Act.put, List.setIfInBounds_toArray, List.set_cons_zero, List.set_cons_succ]
      refine wpAnyH_take (i := 1) (oi := ⟨_, _, _, _, _, _⟩) (v := ?_) rfl (by kernel_rfl) (by kernel_rfl) (by kernel_rfl) (fun _ _ _ h => h) (Or.inl ⟨by rfl, ?_⟩) (by assumption) ?_
      rotate_left 1
      · intro W' hSw
        obtain ⟨hS1, hS2⟩ := hSw
        go_simp
        try with_reducible rfl
      try simp only [Act.put, List.setIfInBounds_toArray, List.set_cons_zero, List.set_cons_succ]
      refine wpAnyH_take (i := 2) (oi := ⟨_, _, _, _, _, _⟩) (v := ?_) rfl (by kernel_rfl) (by kernel_rfl) (by kernel_rfl) (fun _ _ _ h => h) (Or.inl ⟨by rfl, ?_⟩) (by assumption) ?_
      rotate_left 1
      · intro W' hSw
        obtain ⟨hS1, hS2⟩ := hSw
        go_simp
        try with_reducible rfl
      try simp only [Act.put, List.setIfInBounds_toArray, List.set_cons_zero, List.set_cons_succ]
      refine wpAnyH_take (i := 3) (oi := ⟨_, _, _, _, _, _⟩) (v := ?_) rfl (by kernel_rfl) (by kernel_rfl) (by kernel_rfl) (fun _ _ _ h => h) (Or.inl ⟨by rfl, ?_⟩) (by assumption) ?_
      rotate_left 1
      · intro W' hSw
        obtain ⟨hS1, hS2⟩ := hSw
        go_simp
        try with_reducible rfl
      try simp only [Act.put, List.setIfInBounds_toArray, List.set_cons_zero, List.set_cons_succ]
      refine wpAnyH_take (i := 4) (oi := ⟨_, _, _, _, _, _⟩) (v := ?_) rfl (by kernel_rfl) (by kernel_rfl) (by kernel_rfl) (fun _ _ _ h => h) (Or.inl ⟨by rfl, ?_⟩) (by assumption) ?_
      rotate_left 1
      · intro W' hSw
        obtain ⟨hS1, hS2⟩ := hSw
        go_simp
        try with_reducible rfl
      try simp only [Act.put, List.setIfInBounds_toArray, List.set_cons_zero, List.set_cons_succ]
      refine wpAnyH_take (i := 5) (oi := ⟨_, _, _, _, _, _⟩) (v := ?_) rfl (by kernel_rfl) (by kernel_rfl) (by kernel_rfl) (fun _ _ _ h => h) (Or.inl ⟨by rfl, ?_⟩) (by assumption) ?_
      rotate_left 1
      · intro W' hSw
        obtain ⟨hS1, hS2⟩ := hSw
        go_simp
        try with_reducible rfl
      try simp only [Act.put, List.setIfInBounds_toArray, List.set_cons_zero, List.set_cons_succ]
      refine wpAnyH_done (by kernel_rfl) ?_ _
      go_wp2_with fail
      refine ⟨rfl, rfl, ⟨rfl, rfl, HK', i + 1, by omega, ?_, HQ'⟩, ?_⟩
      · show Value.int .i64 _ = _
        go_num
      · show n - (intOf (Value.int .i64 _)).toNat < n - (intOf (F 5)).toNat
        rw [H5.out]
        simp [intOf]; omega
  · obtain rfl : i = n := by omega
    have hin' : ¬ ((i : Int) < (i : Int)) := by omega
    have hrs : res = false := by
      rw [HRES.out]
      refine decide_eq_false (fun h => ?_)
      obtain ⟨j, hj⟩ := List.mem_iff_getElem?.1 h
      exact HQ.out j (by rw [← HW.out.1]; exact (List.getElem?_eq_some_iff.1 hj).1) hj
    have HXE : Hid (W.Extends W2) := by show W.Extends W2; rw [hV]; exact extends_drewN HX.out _
    clear HQ HRES hV HK
    subst hrs
    go_wp2_with fail
    go_ret
    exact ⟨rfl, HXE.out⟩
def ovI (W : World) (a : Option Addr) (n c : Nat) (R : List (List Tup)) (f : Nat → Value) (V : World) : Prop := f 0 = .slice a n c ∧ Hid (∃ W', W' = W ∧ V = W') ∧ ∃ i : Nat, i ≤ n ∧ f 3 = .int .i64 (i : Nat) ∧ Hid (overB (R.take i) = false)
set_option maxRecDepth 100000 in
theorem frame16o (f : Nat → Value) : frameN 16 f = #[f 0, f 1, f 2, f 3, f 4, f 5, f 6, f 7, f 8, f 9, f 10, f 11, f 12, f 13, f 14, f 15] := by kernel_rfl
set_option maxRecDepth 20000 in
set_option maxHeartbeats 4000000 in
theorem over_any {W : World} {a : Option Addr} {n : Nat} {R : List (List Tup)} (h : RelR W a n R) (hR : ∀ L ∈ R, L.length ≤ 10000000000) (hn : n ≤ 1000) (c : Nat) : Calls Tryz.prog 172 #[.slice a n c] W fun e V => e = .returned (.bool (overB R)) ∧ V = W := by
  have HR := hid_of hR
  have HN := hid_of h.len
  have H := hid_of h
  obtain ⟨Q, hQ⟩ : ∃ Q : Ending → World → Prop, Q = fun e V => e = .returned (.bool (overB R)) ∧ V = W := ⟨_, rfl⟩
  rw [← hQ]
  have HQ := hid_of hQ
  clear hQ hR h
  go_enter Tryz.func172, Tryz.ntmps172
  go_upto_region 2 with fail
  refine wp_loop_f 16 (ovI W a n c R) (fun f _ => n - (intOf (f 3)).toNat) rfl ⟨rfl, ⟨_, rfl, rfl⟩, 0, by omega, rfl, rfl⟩ ?_
  intro F V hrel
  obtain ⟨f0, HV, i, hi, f3, HO⟩ := hrel
  have H3 := hid_of f3
  rw [frame16o, f0, f3]
  clear f0 f3
  obtain ⟨W', e1, e2⟩ := HV.out
  subst e1
  subst e2
  by_cases hin : i < n
  · have hin' : (i : Int) < (n : Int) := by omega
    obtain ⟨L, hL⟩ : ∃ L, R[i]? = some L := ⟨_, List.getElem?_eq_getElem (by rw [← HN.out]; exact hin)⟩
    obtain ⟨b, C, ra, rc, rfl, g2, g3, g4, g5⟩ := H.out.at hL
    have hl := HR.out L (List.mem_of_getElem? hL)
    have ht : overB (R.take (i + 1)) = (overB (R.take i) || decide (512 < L.length)) := by
      rw [take_at hL]; unfold overB; rw [List.any_append]; simp
    have p0 : (0 : Int) ≤ (i : Int) := by omega
    have p2 : ((i : Int)).toNat = i := by omega
    by_cases hb : 512 < L.length
    · have hd : (512 : Int) < (L.length : Int) := by omega
      have HP : Hid (Q (.returned (.bool true)) V) := by
        show Q _ _
        rw [HQ.out]
        refine ⟨?_, rfl⟩
        have : overB R = true := List.any_eq_true.2 ⟨L, List.mem_of_getElem? hL, decide_eq_true hb⟩
        rw [this]
      clear HO ht hL g5 HV
      go_wp2_with fail
      try go_ret
      exact HP.out
    · have hd : ¬ (512 : Int) < (L.length : Int) := by omega
      have HO' : Hid (overB (R.take (i + 1)) = false) := by show _ = _; rw [ht, HO.out, decide_eq_false hb]; rfl
      clear HO ht hL g5
      go_wp2_with fail
      refine ⟨rfl, rfl, ⟨rfl, HV, i + 1, by omega, ?_, HO'⟩, ?_⟩
      · show Value.int .i64 _ = _
        go_num
      · show n - (intOf (Value.int .i64 _)).toNat < n - (intOf (F 3)).toNat
        rw [H3.out]
        simp [intOf]; omega
  · have hin' : ¬ (i : Int) < (n : Int) := by omega
    have HP : Hid (Q (.returned (.bool false)) V) := by
      show Q _ _
      rw [HQ.out]
      refine ⟨?_, rfl⟩
      have h1 := HO.out
      rw [List.take_of_length_le (by have := HN.out; omega)] at h1
      rw [h1]
    clear HO HV
    go_wp2_with fail
    try go_ret
    exact HP.out
end Go.Proofs.Qxb6500787aGreat
