import Derived.Test.Qxb6500788aMa
import Derived.StillTailTactics
import Derived.Deep.QuietTactic
import Derived.BigQuiet
import Derived.Deep.RegionHeld
import Derived.Deep.CutRange
import Derived.Laws.ResultCell
import Derived.Laws.Rows
import Derived.DeepKeys
import Derived.DataBytes
import Derived.Laws.StructEq
import Derived.Laws.AppendOwn
import Derived.Laws.MakeOwn
set_option linter.unusedSimpArgs false
set_option linter.unusedVariables false
namespace Go.Proofs.Qxb6500788a
open Go.RowKit Go.Blk
attribute [local go_sem ↓] execOp_load execOp_store execOp_alloc
attribute [local go_sem] Try.ld24 Try.st24 Try.ld25 Try.st25 Try.ld3 Try.st3 Try.ld30 Try.st30 Try.ld36 Try.st36 Try.ld4 Try.st4 Try.ld41 Try.st41 Try.ld50 Try.st50 Try.ld40 Try.st40 Try.ld42 Try.st42 Try.ld89 Try.st89 Try.ld91 Try.st91 Try.ld56 Try.st56 Try.ld97 Try.st97 Try.ld98 Try.st98 Try.ld101 Try.st101 Try.ld104 Try.st104 Try.ld57 Try.st57 Try.ld130 Try.st130 Try.ld2 Try.st2 Try.ld5 Try.st5 Try.ld9 Try.st9 Try.ld12 Try.st12 Try.ld21 Try.st21 Try.ld22 Try.st22 Try.ld29 Try.st29 Try.ld33 Try.st33 Try.ld59 Try.st59 Try.ld62 Try.st62 Try.ld69 Try.st69 Try.ld94 Try.st94 Try.ld96 Try.st96 Try.ld129 Try.st129 Try.ld158 Try.st158 Try.ld162 Try.st162 Try.ld47 Try.st47 Try.ld44 Try.st44 Try.ld137 Try.st137 Try.ld145 Try.st145 Try.ld43 Try.st43 Try.ld27 Try.st27 Try.ld38 Try.st38 Try.ld46 Try.st46 Try.ld49 Try.st49 Try.ld52 Try.st52 Try.ld54 Try.st54 Try.ld61 Try.st61 Try.ld80 Try.st80 Try.ld87 Try.st87 Try.ld93 Try.st93 Try.ld100 Try.st100 Try.ld103 Try.st103 Try.ld106 Try.st106 Try.ld109 Try.st109 Try.ld132 Try.st132 Try.ld147 Try.st147 Try.al47 Try.al44 Try.al137 Try.al145 Try.al43 Try.al27 Try.al38 Try.al46 Try.al49 Try.al52 Try.al54 Try.al61 Try.al80 Try.al87 Try.al93 Try.al100 Try.al103 Try.al106 Try.al109 Try.al132 Try.al147
attribute [local go_sem] GProgram.length_enc GProgram.ok_enc GProgram.all_get GProgram.all_set GProgram.preds_get GProgram.preds_set GProgram.rules_get GProgram.rules_set GProgram.strata_get GProgram.strata_set Answer.length_enc Answer.ok_enc Answer.all_get Answer.all_set Answer.code_get Answer.code_set Answer.n_get Answer.n_set Answer.rows_get Answer.rows_set Term.length_enc Term.ok_enc Term.all_get Term.all_set Term.var_get Term.var_set Term.n_get Term.n_set Atom.length_enc Atom.ok_enc Atom.all_get Atom.all_set Atom.pred_get Atom.pred_set Atom.args_get Atom.args_set GRule.length_enc GRule.ok_enc GRule.all_get GRule.all_set GRule.head_get GRule.head_set GRule.body_get GRule.body_set GRule.head_pred_get GRule.head_pred_set GRule.head_args_get GRule.head_args_set GOp.length_enc GOp.ok_enc GOp.all_get GOp.all_set GOp.kind_get GOp.kind_set GOp.pred_get GOp.pred_set GOp.t_get GOp.t_set GOp.n_get GOp.n_set GOp.base_get GOp.base_set GOp.rule_get GOp.rule_set GOp.rule_head_get GOp.rule_head_set GOp.rule_body_get GOp.rule_body_set GOp.rule_head_pred_get GOp.rule_head_pred_set GOp.rule_head_args_get GOp.rule_head_args_set PredInfo.length_enc PredInfo.ok_enc PredInfo.all_get PredInfo.all_set PredInfo.arity_get PredInfo.arity_set PredInfo.base_get PredInfo.base_set PredInfo.stratum_get PredInfo.stratum_set GStats.length_enc GStats.ok_enc GStats.all_get GStats.all_set GStats.rounds_get GStats.rounds_set GStats.fired_get GStats.fired_set GStats.emitted_get GStats.emitted_set GStats.fresh_get GStats.fresh_set Literal.length_enc Literal.ok_enc Literal.all_get Literal.all_set Literal.neg_get Literal.neg_set Literal.atom_get Literal.atom_set Literal.atom_pred_get Literal.atom_pred_set Literal.atom_args_get Literal.atom_args_set Engine.length_enc Engine.ok_enc Engine.all_get Engine.all_set Engine.prog_get Engine.prog_set Engine.st_get Engine.st_set Engine.levels_get Engine.levels_set Engine.running_get Engine.running_set Engine.stratum_get Engine.stratum_set Engine.round_get Engine.round_set Engine.saved_get Engine.saved_set Engine.stats_get Engine.stats_set Engine.prog_preds_get Engine.prog_preds_set Engine.prog_rules_get Engine.prog_rules_set Engine.prog_strata_get Engine.prog_strata_set Engine.stats_rounds_get Engine.stats_rounds_set Engine.stats_fired_get Engine.stats_fired_set Engine.stats_emitted_get Engine.stats_emitted_set Engine.stats_fresh_get Engine.stats_fresh_set Level.length_enc Level.ok_enc Level.all_get Level.all_set Level.heads_get Level.heads_set Level.jobs_get Level.jobs_set Plan.length_enc Plan.ok_enc Plan.all_get Plan.all_set Plan.rule_get Plan.rule_set Plan.delta_get Plan.delta_set Plan.src_get Plan.src_set Job.length_enc Job.ok_enc Job.all_get Job.all_set Job.full_get Job.full_set Job.deltas_get Job.deltas_set Job.full_rule_get Job.full_rule_set Job.full_delta_get Job.full_delta_set Job.full_src_get Job.full_src_set GState.length_enc GState.ok_enc GState.all_get GState.all_set GState.prog_get GState.prog_set GState.base_get GState.base_set GState.shown_get GState.shown_set GState.prog_preds_get GState.prog_preds_set GState.prog_rules_get GState.prog_rules_set GState.prog_strata_get GState.prog_strata_set Store.length_enc Store.ok_enc Store.all_get Store.all_set Store.arity_get Store.arity_set Store.rows_get Store.rows_set Env.length_enc Env.ok_enc Env.all_get Env.all_set Env.val_get Env.val_set Env.set_get Env.set_set
attribute [local go_sem] size_put size_ext blk_put free_put blk_alloc free_alloc blk_drew free_drew blk_ext free_ext lookOr_some putOr_some segAt_some cellAt_some storeIn_some put_put put_alloc_new length_arr ok_arr_u8 ok_arr_u32 ok_arr_u64 ok_arr_i64 ok_arr_sl cellsV_agg cellsV_int cellsV_bool cellsV_string cellsV_pointer cellsV_slice cellsV_sl ok_int ok_bool ok_string ok_pointer ok_slice ok_sl toList_arr seg_arr set_arr nth_splice nth_splice0 seg_splice seg_splice0 splice_splice splice_splice0 length_splice_if
attribute [local go_sem ↓] execOp_box
attribute [local go_sem] box_run nth_arr_u8 put_arr_u8 blk_drewN free_drewN put_drewN blk_raw free_raw
theorem wp_cutR {P : Program} {c : Code} {Qx : Exit → Act → World → Prop} {a : Act} {w : World} (R : Act → Act → World → Prop) (h1 : Code.wp P c (fun x a' w' => x = .normal ∧ R a a' w') a w) (h2 : ∀ a' w', R a a' w' → Qx .normal a' w') : Code.wp P c Qx a w :=
  Code.wp_mono (fun x a' w' h => by obtain ⟨rfl, h⟩ := h; exact h2 a' w' h) h1
theorem frame_of {n : Nat} (arr : Array Value) (h : arr.size = n) : arr = frameN n (fun k => arr.getD k undef) := by
  subst h
  apply Array.ext
  · simp [frameN]
  · intro i h1 h2
    simp [frameN, Array.getD, h1]
theorem cut_intro {n : Nat} {P : (Nat → Value) → Prop} (arr : Array Value) (h : arr.size = n) (hP : P (fun k => arr.getD k undef)) : ∃ f, (⟨arr, []⟩ : Act) = ⟨frameN n f, []⟩ ∧ P f := ⟨_, by rw [← frame_of arr h], hP⟩
/-- What may happen while a row v of one's own becomes v': only its block is written, or a new one is made. -/
structure Gro (W W' : World) (v v' : Value) : Prop where
  size : W.heap.size ≤ W'.heap.size
  block : ∀ k, k < W.heap.size → v.ownBlock ≠ some k → W'.heap[k]? = W.heap[k]?
  own : ∀ k, v'.ownBlock = some k → v.ownBlock = some k ∨ W.heap.size ≤ k
theorem Gro.refl (W : World) (v : Value) : Gro W W v v := ⟨Nat.le_refl _, fun _ _ _ => rfl, fun _ h => .inl h⟩
theorem Gro.of_ext {W W' : World} (h : W.Extends W') (v : Value) : Gro W W' v v := ⟨h.size, fun k hk _ => h.block k hk, fun _ h => .inl h⟩
theorem Gro.trans {W W' W'' : World} {v v' v'' : Value} (h : Gro W W' v v') (h' : Gro W' W'' v' v'') : Gro W W'' v v'' := by
  refine ⟨Nat.le_trans h.size h'.size, fun k hk hn => ?_, fun k hk => ?_⟩
  · have hn' : v'.ownBlock ≠ some k := fun e => by
      rcases h.own k e with e | e
      · exact hn e
      · omega
    exact (h'.block k (Nat.lt_of_lt_of_le hk h.size) hn').trans (h.block k hk hn)
  · rcases h'.own k hk with e | e
    · exact h.own k e
    · exact .inr (Nat.le_trans h.size e)
theorem Gro.blk {W W' : World} {v v' : Value} (h : Gro W W' v v') {k : Nat} {C : List Value} (hb : blk W k = some C) (hn : v.ownBlock ≠ some k) : Blk.blk W' k = some C ∧ v'.ownBlock ≠ some k := by
  refine ⟨(blk_of_heap (h.block k (blk_lt hb) hn)).trans hb, fun e => ?_⟩
  rcases h.own k e with e | e
  · exact hn e
  · have := blk_lt hb; omega
/-- A list of tuples that can be read, apart from v's block. -/
def Apt (V : World) (v : Value) (ra : Option Addr) (rn : Nat) (rows : List Tup) : Prop := rn = rows.length ∧ (rows ≠ [] → ∃ b C, ra = some ⟨b, 0, none⟩ ∧ blk V b = some C ∧ v.ownBlock ≠ some b ∧ ∀ i x, rows[i]? = some x → i * 4 + 4 ≤ C.length ∧ seg C (i * 4) 4 = arr i64v x)
theorem Apt.gro {V V' : World} {v v' : Value} {ra : Option Addr} {rn : Nat} {rows : List Tup} (h : Apt V v ra rn rows) (hg : Gro V V' v v') : Apt V' v' ra rn rows := by
  refine ⟨h.1, fun hne => ?_⟩
  obtain ⟨b, C, h1, h2, h3, h4⟩ := h.2 hne
  obtain ⟨g1, g2⟩ := hg.blk h2 h3
  exact ⟨b, C, h1, g1, g2, h4⟩
theorem outs_rw {W V : World} {a : Option Addr} {n c : Nat} {ts : List Tup} (h : Outs W V a n c ts) : Rw tpl 4 V a n ts ∧ n ≤ c ∧ c ≤ maxLen := rw_own tpl_len h.1
theorem apt_of {V : World} {v : Value} {a : Option Addr} {n : Nat} {ts : List Tup} (h : Rw tpl 4 V a n ts) (hv : ∀ b, a = some ⟨b, 0, none⟩ → v.ownBlock ≠ some b) : Apt V v a n ts := by
  refine ⟨h.1.symm, fun hne => ?_⟩
  obtain ⟨x0, hx0⟩ : ∃ x, ts[0]? = some x := ⟨_, List.getElem?_eq_getElem (by cases ts with | nil => exact absurd rfl hne | cons _ _ => exact Nat.succ_pos _)⟩
  obtain ⟨b, C, h1, h2, _, _, _⟩ := tup_at h hx0
  refine ⟨b, C, h1, h2, hv b h1, fun i x hx => ?_⟩
  obtain ⟨b', C', g1, g2, g3, _, g4⟩ := tup_at h hx
  rw [h1] at g1
  injection g1 with g1
  injection g1 with g1
  subst g1
  rw [h2] at g2
  injection g2 with g2
  subst g2
  exact ⟨g3, g4⟩
theorem Outs.app2 {W V : World} {a : Option Addr} {n c : Nat} {ts : List Tup} (h : Outs W V a n c ts) (t : Tup) (hl : ts.length ≤ 10000000000) :
    ∃ a' c' V', (Builtin.append_ #[36, 36] 36 #[.slice a n c, .slice (some ⟨V.heap.size, 0, none⟩) 1 1]).run Try.prog (V.alloc (.cells (arr i64v t).toArray 44)) = .ok (.slice a' (n + 1) c') V' ∧ Outs W V' a' (n + 1) c' (ts ++ [t]) ∧ Gro V V' (.slice a n c) (.slice a' (n + 1) c') := by
  have hx1 : V.Extends (V.alloc (.cells (arr i64v t).toArray 44)) := extends_alloc (ext_Ext (Ext.refl _)) _
  have h1 := h.ext hx1
  obtain ⟨v', V', hr, ho, hg, hbk⟩ := appG tpl 4 32 36 44 Try.underlying36 info44 tpl_len tpl_one (by omega) (by omega) W.heap.size (V.alloc (.cells (arr i64v t).toArray 44)) 36 (.slice a n c) ts t V.heap.size 1 h1.1 ((blk_alloc _ _ _ _).trans (if_pos rfl)) h1.2.1.size (by omega)
  obtain ⟨a', c', rfl⟩ := row_val ho
  have hm : (ts ++ [t]).length = n + 1 := by rw [List.length_append, List.length_singleton, h.2.2]
  rw [hm] at hr hbk
  refine ⟨a', c', V', hr, ⟨by rw [← hm]; exact ho, grown_ext h1.2.1 hg (fun k hk => (row_at h1.1 k hk).1), hm.symm⟩, ?_⟩
  refine ⟨Nat.le_trans hx1.size hg.size, fun k hk hn => (hg.block k (Nat.lt_of_lt_of_le hk hx1.size) (fun e => hn e.symm)).trans (hx1.block k hk), fun k hk => ?_⟩
  rcases hbk with hbk | hbk
  · exact .inl (hbk ▸ hk)
  · right
    rw [hbk] at hk
    have := (Option.some.inj hk).symm
    have := hx1.size
    omega
/-- A tuple whose columns are constants. -/
def TOk (t : Tup) : Prop := ∀ c, c < 4 → 0 ≤ tg t c ∧ tg t c < 256
theorem nodup_bound : ∀ (n : Nat) (L : List Nat), L.Nodup → (∀ x ∈ L, x < n) → L.length ≤ n
  | 0, L, _, h => by
    cases L with
    | nil => exact Nat.le_refl _
    | cons x L => exact absurd (h x (List.mem_cons_self ..)) (Nat.not_lt_zero _)
  | n + 1, L, hN, h => by
    by_cases hm : n ∈ L
    · have ih := nodup_bound n (L.erase n) (hN.erase n) (fun x hx => by
        have h1 := h x (List.mem_of_mem_erase hx)
        have h2 : x ≠ n := fun e => by subst e; exact (List.Nodup.not_mem_erase hN) hx
        omega)
      rw [List.length_erase_of_mem hm] at ih
      omega
    · have ih := nodup_bound n L hN (fun x hx => by
        have h1 := h x hx
        have h2 : x ≠ n := fun e => by subst e; exact hm hx
        omega)
      omega
def tcode (t : Tup) : Nat := (tg t 0).toNat + 256 * (tg t 1).toNat + 65536 * (tg t 2).toNat + 16777216 * (tg t 3).toNat
theorem tcode_lt {t : Tup} (h : TOk t) : tcode t < 4294967296 := by
  obtain ⟨a0, a1⟩ := h 0 (by omega)
  obtain ⟨b0, b1⟩ := h 1 (by omega)
  obtain ⟨c0, c1⟩ := h 2 (by omega)
  obtain ⟨d0, d1⟩ := h 3 (by omega)
  unfold tcode
  omega
theorem tcode_inj {t u : Tup} (h : TOk t) (h' : TOk u) (e : tcode t = tcode u) : t = u := by
  obtain ⟨a0, a1⟩ := h 0 (by omega)
  obtain ⟨b0, b1⟩ := h 1 (by omega)
  obtain ⟨c0, c1⟩ := h 2 (by omega)
  obtain ⟨d0, d1⟩ := h 3 (by omega)
  obtain ⟨a2, a3⟩ := h' 0 (by omega)
  obtain ⟨b2, b3⟩ := h' 1 (by omega)
  obtain ⟨c2, c3⟩ := h' 2 (by omega)
  obtain ⟨d2, d3⟩ := h' 3 (by omega)
  unfold tcode at e
  apply tg_ext
  intro c hc
  have h0 : tg t 0 = tg u 0 := by omega
  have h1 : tg t 1 = tg u 1 := by omega
  have h2 : tg t 2 = tg u 2 := by omega
  have h3 : tg t 3 = tg u 3 := by omega
  match c, hc with
  | 0, _ => exact h0
  | 1, _ => exact h1
  | 2, _ => exact h2
  | 3, _ => exact h3
theorem nodup_map_on {α β : Type} {f : α → β} : ∀ {L : List α}, L.Nodup → (∀ x ∈ L, ∀ y ∈ L, f x = f y → x = y) → (L.map f).Nodup
  | [], _, _ => List.nodup_nil
  | x :: L, hN, h => by
    rw [List.nodup_cons] at hN
    rw [List.map_cons, List.nodup_cons]
    refine ⟨fun hm => ?_, nodup_map_on hN.2 (fun a ha b hb => h a (List.mem_cons_of_mem _ ha) b (List.mem_cons_of_mem _ hb))⟩
    obtain ⟨y, hy, e⟩ := List.mem_map.1 hm
    have := h y (List.mem_cons_of_mem _ hy) x (List.mem_cons_self ..) e
    subst this
    exact hN.1 hy
def OutOk (L : List Tup) : Prop := L.Nodup ∧ ∀ t ∈ L, TOk t
theorem OutOk.len {L : List Tup} (h : OutOk L) : L.length ≤ 4294967296 := by
  have := nodup_bound 4294967296 (L.map tcode) (nodup_map_on h.1 (fun x hx y hy e => tcode_inj (h.2 x hx) (h.2 y hy) e)) (fun x hx => by
    obtain ⟨t, ht, rfl⟩ := List.mem_map.1 hx
    exact tcode_lt (h.2 t ht))
  rwa [List.length_map] at this
theorem outOk_nil : OutOk [] := ⟨List.nodup_nil, fun _ h => by cases h⟩
def addT (L : List Tup) (t : Tup) : List Tup := if t ∈ L then L else L ++ [t]
theorem OutOk.add {L : List Tup} (h : OutOk L) {t : Tup} (ht : TOk t) : OutOk (addT L t) := by
  unfold addT
  by_cases hm : t ∈ L
  · rw [if_pos hm]; exact h
  · rw [if_neg hm]
    refine ⟨List.nodup_append.2 ⟨h.1, by simp, fun a ha b hb e => ?_⟩, fun x hx => ?_⟩
    · rw [List.mem_singleton] at hb; subst hb; subst e; exact hm ha
    · rcases List.mem_append.1 hx with hx | hx
      · exact h.2 x hx
      · rw [List.mem_singleton.1 hx]; exact ht
theorem mem_addT {L : List Tup} {t x : Tup} : x ∈ addT L t ↔ x ∈ L ∨ x = t := by
  unfold addT
  by_cases hm : t ∈ L
  · rw [if_pos hm]
    exact ⟨.inl, fun h => h.elim id (fun e => e ▸ hm)⟩
  · rw [if_neg hm, List.mem_append, List.mem_singleton]
/-- The arity of an atom's predicate. -/
def arA (P : List PredInfo) (a : Atom) : Nat := (P.getD a.pred.toNat ⟨0, false, 0⟩).arity.toNat
def rowsAt (S : List (List Tup)) (r : Nat) : List Tup := S.getD r []
/-- No negated literal is in its relation. -/
def negs (P : List PredInfo) (S : List (List Tup)) (Z : List (Literal × Nat)) (e : Env) : Bool := Z.all fun z => !(z.1.neg && decide (gT z.1.atom e (arA P z.1.atom) ∈ rowsAt S z.2))
/-- The machine's matching, plainly. -/
def goM (P : List PredInfo) (S : List (List Tup)) (Z0 : List (Literal × Nat)) (hd : Atom) : List (Literal × Nat) → Env → List Tup → List Tup
  | [], e, out => if negs P S Z0 e then addT out (gT hd e (arA P hd)) else out
  | z :: Z, e, out => if z.1.neg then goM P S Z0 hd Z e out else (rowsAt S z.2).foldl (fun out row => match uniF z.1.atom row (arA P z.1.atom) e with | some e' => goM P S Z0 hd Z e' out | none => out) out
/-- One row of one literal. -/
def stM (P : List PredInfo) (S : List (List Tup)) (Z0 : List (Literal × Nat)) (hd : Atom) (z : Literal × Nat) (Z : List (Literal × Nat)) (e : Env) (out : List Tup) (row : Tup) : List Tup := match uniF z.1.atom row (arA P z.1.atom) e with | some e' => goM P S Z0 hd Z e' out | none => out
theorem goM_cons (P : List PredInfo) (S : List (List Tup)) (Z0 : List (Literal × Nat)) (hd : Atom) (z : Literal × Nat) (Z : List (Literal × Nat)) (e : Env) (out : List Tup) : goM P S Z0 hd (z :: Z) e out = if z.1.neg then goM P S Z0 hd Z e out else (rowsAt S z.2).foldl (stM P S Z0 hd z Z e) out := rfl
/-- All values are constants. -/
def EOk (e : Env) : Prop := ∀ v, v < 32 → 0 ≤ eV e v ∧ eV e v < 256
theorem EOk.up {e : Env} (h : EOk e) (v : Nat) {x : Int} (hx : 0 ≤ x ∧ x < 256) : EOk (eU e v x) := by
  intro w hw
  by_cases hv : v < 32
  · rw [eV_eU e hv]
    by_cases h1 : w = v
    · rw [if_pos h1]; exact hx
    · rw [if_neg h1]; exact h w hw
  · unfold eU
    rw [dif_neg hv]; exact h w hw
theorem eok_zero : EOk Env.zero := by
  intro v hv
  rw [eV_at _ hv]
  simp [Env.zero]
theorem EOk.uni {a : Atom} {row : Tup} (hr : TOk row) : ∀ {c : Nat} {e e' : Env}, c ≤ 4 → EOk e → uniF a row c e = some e' → EOk e'
  | 0, e, e', _, he, h => by injection h with h; rw [← h]; exact he
  | c + 1, e, e', hc, he, h => by
    have h' : (uniF a row c e).bind (uniS a row c) = some e' := h
    obtain ⟨e1, h1, h2⟩ := Option.bind_eq_some_iff.1 h'
    have ih := EOk.uni hr (by omega) he h1
    unfold uniS at h2
    by_cases hv : (tA a c).var = true
    · rw [if_pos hv] at h2
      by_cases hb : eS e1 (tA a c).n.toNat = true ∧ ¬ eV e1 (tA a c).n.toNat = tg row c
      · rw [if_pos hb] at h2; cases h2
      · rw [if_neg hb] at h2
        injection h2 with h2
        rw [← h2]
        exact ih.up _ (hr c (by omega))
    · rw [if_neg hv] at h2
      by_cases hb : (tA a c).n = tg row c
      · rw [if_pos hb] at h2; injection h2 with h2; rw [← h2]; exact ih
      · rw [if_neg hb] at h2; cases h2
theorem gT_ok {a : Atom} {ar : Nat} (hf : Fit a ar) {e : Env} (he : EOk e) : TOk (gT a e ar) := by
  intro c hc
  rw [tg_gT a e ar c hc]
  by_cases h : c < ar
  · rw [if_pos h]
    obtain ⟨h0, h1, h2⟩ := hf.2 c h
    unfold valT
    by_cases hv : (tA a c).var = true
    · rw [if_pos hv]
      exact he _ (by have := h1 hv; omega)
    · rw [if_neg hv]
      exact ⟨h0, h2 (by simpa using hv)⟩
  · rw [if_neg h]; omega
/-- The store's rows are lists of constants, not too long, without repetition. -/
def SOk (S : List (List Tup)) : Prop := ∀ L ∈ S, L.length ≤ 512 ∧ OutOk L
theorem SOk.at {S : List (List Tup)} (h : SOk S) (r : Nat) : (rowsAt S r).length ≤ 512 ∧ OutOk (rowsAt S r) := by
  unfold rowsAt
  rw [List.getD_eq_getElem?_getD]
  cases hr : S[r]? with
  | none => exact ⟨Nat.zero_le _, outOk_nil⟩
  | some L => exact h L (List.mem_of_getElem? hr)
def ZFit (P : List PredInfo) (Z : List (Literal × Nat)) : Prop := ∀ z ∈ Z, Fit z.1.atom (arA P z.1.atom)
theorem goM_ok {P : List PredInfo} {S : List (List Tup)} {Z0 : List (Literal × Nat)} {hd : Atom} (hS : SOk S) (hh : Fit hd (arA P hd)) : ∀ (Z : List (Literal × Nat)) (e : Env) (out : List Tup), ZFit P Z → EOk e → OutOk out → OutOk (goM P S Z0 hd Z e out)
  | [], e, out, _, he, ho => by
    show OutOk (if negs P S Z0 e then addT out (gT hd e (arA P hd)) else out)
    by_cases hn : negs P S Z0 e = true
    · rw [if_pos hn]; exact ho.add (gT_ok hh he)
    · rw [if_neg hn]; exact ho
  | z :: Z, e, out, hz, he, ho => by
    rw [goM_cons]
    have hz' : ZFit P Z := fun x hx => hz x (List.mem_cons_of_mem _ hx)
    by_cases hn : z.1.neg = true
    · rw [if_pos hn]; exact goM_ok hS hh Z e out hz' he ho
    · rw [if_neg hn]
      have hr := (hS.at z.2).2.2
      have key : ∀ (rows : List Tup) (out : List Tup), (∀ t ∈ rows, TOk t) → OutOk out → OutOk (rows.foldl (stM P S Z0 hd z Z e) out) := by
        intro rows
        induction rows with
        | nil => intro out _ ho; exact ho
        | cons row rows ih =>
          intro out hr ho
          rw [List.foldl_cons]
          refine ih _ (fun t ht => hr t (List.mem_cons_of_mem _ ht)) ?_
          unfold stM
          cases hu : uniF z.1.atom row (arA P z.1.atom) e with
          | none => exact ho
          | some e' => exact goM_ok hS hh Z e' out hz' (EOk.uni (hr row (List.mem_cons_self ..)) (hz z (List.mem_cons_self ..)).1 he hu) ho
      exact key _ out hr ho
theorem stM_ok {P : List PredInfo} {S : List (List Tup)} {Z0 : List (Literal × Nat)} {hd : Atom} (hS : SOk S) (hh : Fit hd (arA P hd)) {z : Literal × Nat} {Z : List (Literal × Nat)} (hz : ZFit P (z :: Z)) {e : Env} (he : EOk e) : ∀ (rows : List Tup) (out : List Tup), (∀ t ∈ rows, TOk t) → OutOk out → OutOk (rows.foldl (stM P S Z0 hd z Z e) out) := by
  intro rows
  induction rows with
  | nil => intro out _ ho; exact ho
  | cons row rows ih =>
    intro out hr ho
    rw [List.foldl_cons]
    refine ih _ (fun t ht => hr t (List.mem_cons_of_mem _ ht)) ?_
    unfold stM
    cases hu : uniF z.1.atom row (arA P z.1.atom) e with
    | none => exact ho
    | some e' => exact goM_ok hS hh Z e' out (fun x hx => hz x (List.mem_cons_of_mem _ hx)) (EOk.uni (hr row (List.mem_cons_self ..)) (hz z (List.mem_cons_self ..)).1 he hu) ho
/-- member -/
def meI (W0 : World) (a : Option Addr) (n c b3 : Nat) (L : List Tup) (t : Tup) (f : Nat → Value) (W : World) : Prop := f 0 = .slice a n c ∧ f 3 = .pointer (some ⟨b3, 0, none⟩) ∧ Hid (∃ k, W = W0.drewN k) ∧ ∃ i : Nat, i ≤ n ∧ f 5 = .int .i64 (i : Nat) ∧ Hid (∀ j, j < i → L[j]? ≠ some t)
attribute [local go_sem] eql44 neq44
attribute [local go_sem ↓] execOp_eql44 execOp_neq44
set_option maxRecDepth 100000 in
theorem frame18 (f : Nat → Value) : frameN 18 f = #[f 0, f 1, f 2, f 3, f 4, f 5, f 6, f 7, f 8, f 9, f 10, f 11, f 12, f 13, f 14, f 15, f 16, f 17] := by kernel_rfl
set_option maxRecDepth 20000 in
set_option maxHeartbeats 4000000 in
theorem member_any (W : World) (a : Option Addr) (n c : Nat) (L : List Tup) (hw : Rw tpl 4 W a n L) (hn : n ≤ 10000000000) (t : Tup) : Calls Try.prog 87 #[.slice a n c, .agg (arr i64v t).toArray] W fun e W' => e = .returned (.bool (decide (t ∈ L))) ∧ W.Extends W' := by
  obtain ⟨res, hres⟩ : ∃ res, res = decide (t ∈ L) := ⟨_, rfl⟩
  rw [← hres]
  have HRES := hid_of hres
  have HW0 := hid_of hw
  clear hres hw
  go_enter Try.func87, Try.ntmps87
  go_upto_region 1 with fail
  refine wp_world (fun W0 => blk W0 W.heap.size = some (arr i64v t) ∧ W.Extends W0) ⟨?_, extends_alloc (ext_Ext (Ext.refl _)) _⟩ ?_
  · rw [blk_alloc, if_pos rfl]
  rintro W1 ⟨hb3, hx1⟩
  obtain ⟨b3, e3⟩ : ∃ b3, b3 = W.heap.size := ⟨_, rfl⟩
  rw [← e3] at hb3 ⊢
  have HX := hid_of hx1
  have hw1 := HW0.out.ext' hx1
  have HW := hid_of hw1
  have HKM := hid_of hb3
  clear e3 hx1 hb3 hw1
  go_wp2_with fail
  have HK0 : Hid (∃ k, W1 = W1.drewN k) := ⟨0, rfl⟩
  refine wp_loop_f 18 (meI W1 a n c b3 L t) (fun f _ => n - (intOf (f 5)).toNat) rfl ⟨rfl, rfl, HK0, 0, by omega, rfl, fun j h => absurd h (Nat.not_lt_zero _)⟩ ?_
  clear HK0
  intro F W2 hrel
  obtain ⟨f0, f3, HK, i, hi, f5, HQ⟩ := hrel
  have H5 := hid_of f5
  rw [frame18, f0, f3, f5]
  clear f0 f3 f5
  obtain ⟨k0, hV⟩ := HK.out
  have hb3 : blk W2 b3 = some (arr i64v t) := by rw [hV, blk_drewN]; exact HKM.out
  by_cases hin : i < n
  · have hin' : (i : Int) < (n : Int) := by omega
    obtain ⟨x, hx⟩ : ∃ x, L[i]? = some x := ⟨_, List.getElem?_eq_getElem (by rw [HW.out.1]; exact hin)⟩
    obtain ⟨bn, Cn, rfl, hCn, hcn, _, un⟩ := tup_at (HW.out.drewN k0) hx
    rw [← hV] at hCn
    have p0 : (0 : Int) ≤ (i : Int) := by omega
    have p2 : ((i : Int)).toNat = i := by omega
    have p5 : i * 4 < Cn.length := by omega
    have HK' : Hid (∃ k, W2.drew = W1.drewN k) := ⟨k0 + 1, by rw [hV]; rfl⟩
    have HXE : Hid (W.Extends W2.drew) := by show W.Extends W2.drew; rw [hV]; exact extends_drew (extends_drewN HX.out _)
    by_cases he : x = t
    · have hrs : res = true := by
        rw [HRES.out]
        subst he
        exact decide_eq_true (List.mem_of_getElem? hx)
      subst he
      have htt : decide (x = x) = true := by simp
      clear HQ hx HRES hV HK HK'
      subst hrs
      go_upto_region 4 with fail
      refine wp_region_held_drew (S := fun W' => blk W' b3 = some (arr i64v x) ∧ blk W' bn = some Cn) (by kernel_rfl) ⟨hb3, hCn⟩ (fun hHeld => ?_)
      refine wpAnyH_take (i := 0) (oi := ⟨_, _, _, _, _, _⟩) (v := ?_) rfl (by kernel_rfl) (by kernel_rfl) (by kernel_rfl) (fun _ _ _ h => h) (Or.inl ⟨by rfl, ?_⟩) (by assumption) ?_
      rotate_left 1
      · intro W' hSw
        obtain ⟨hS1, hS2⟩ := hSw
        go_simp
        try with_reducible rfl
      try simp only [Act.put, List.setIfInBounds_toArray, List.set_cons_zero, List.set_cons_succ]
      refine wpAnyH_take (i := 1) (oi := ⟨_, _, _, _, _, _⟩) (v := ?_) rfl (by kernel_rfl) (by kernel_rfl) (by kernel_rfl) (fun _ _ _ h => h) (Or.inl ⟨by rfl, ?_⟩) (by assumption) ?_
      rotate_left 1
      · intro W' hSw
        obtain ⟨hS1, hS2⟩ := hSw
        go_simp
        try with_reducible rfl
      try simp only [Act.put, List.setIfInBounds_toArray, List.set_cons_zero, List.set_cons_succ]
      refine wpAnyH_take (i := 2) (oi := ⟨_, _, _, _, _, _⟩) (v := ?_) rfl (by kernel_rfl) (by kernel_rfl) (by kernel_rfl) (fun _ _ _ h => h) (Or.inl ⟨by rfl, ?_⟩) (by assumption) ?_
      rotate_left 1
      · intro W' hSw
        obtain ⟨hS1, hS2⟩ := hSw
        go_simp
        try with_reducible rfl
      try simp only [Act.put, List.setIfInBounds_toArray, List.set_cons_zero, List.set_cons_succ]
      refine wpAnyH_take (i := 3) (oi := ⟨_, _, _, _, _, _⟩) (v := ?_) rfl (by kernel_rfl) (by kernel_rfl) (by kernel_rfl) (fun _ _ _ h => h) (Or.inl ⟨by rfl, ?_⟩) (by assumption) ?_
      rotate_left 1
      · intro W' hSw
        obtain ⟨hS1, hS2⟩ := hSw
        go_simp
        try with_reducible rfl
      try simp only [Act.put, List.setIfInBounds_toArray, List.set_cons_zero, List.set_cons_succ]
      refine wpAnyH_take (i := 4) (oi := ⟨_, _, _, _, _, _⟩) (v := ?_) rfl (by kernel_rfl) (by kernel_rfl) (by kernel_rfl) (fun _ _ _ h => h) (Or.inl ⟨by rfl, ?_⟩) (by assumption) ?_
      rotate_left 1
      · intro W' hSw
        obtain ⟨hS1, hS2⟩ := hSw
        go_simp
        try with_reducible rfl
      try simp only [Act.put, List.setIfInBounds_toArray, List.set_cons_zero, List.set_cons_succ]
      refine wpAnyH_take (i := 5) (oi := ⟨_, _, _, _, _, _⟩) (v := ?_) rfl (by kernel_rfl) (by kernel_rfl) (by kernel_rfl) (fun _ _ _ h => h) (Or.inl ⟨by rfl, ?_⟩) (by assumption) ?_
      rotate_left 1
      · intro W' hSw
        obtain ⟨hS1, hS2⟩ := hSw
        go_simp
        try with_reducible rfl
      try simp only [Act.put, List.setIfInBounds_toArray, List.set_cons_zero, List.set_cons_succ]
      refine wpAnyH_done (by kernel_rfl) ?_ _
      go_wp2_with fail
      go_ret
      exact ⟨rfl, HXE.out⟩
    · have HQ' : Hid (∀ j, j < i + 1 → L[j]? ≠ some t) := by
        intro j h1
        by_cases h3 : j = i
        · subst h3
          rw [hx]
          intro e; exact he (Option.some.inj e)
        · exact HQ.out j (by omega)
      have hde : decide (x = t) = false := decide_eq_false he
      clear HQ hx hV HK HXE
      go_upto_region 4 with fail
      refine wp_region_held_drew (S := fun W' => blk W' b3 = some (arr i64v t) ∧ blk W' bn = some Cn) (by kernel_rfl) ⟨hb3, hCn⟩ (fun hHeld => ?_)
      refine wpAnyH_take (i := 0) (oi := ⟨_, _, _, _, _, _⟩) (v := ?_) rfl (by kernel_rfl) (by kernel_rfl) (by kernel_rfl) (fun _ _ _ h => h) (Or.inl ⟨by rfl, ?_⟩) (by assumption) ?_
      rotate_left 1
      · intro W' hSw
        obtain ⟨hS1, hS2⟩ := hSw
        go_simp
        try with_reducible rfl
      try simp only [Act.put, List.setIfInBounds_toArray, List.set_cons_zero, List.set_cons_succ]
      refine wpAnyH_take (i := 1) (oi := ⟨_, _, _, _, _, _⟩) (v := ?_) rfl (by kernel_rfl) (by kernel_rfl) (by kernel_rfl) (fun _ _ _ h => h) (Or.inl ⟨by rfl, ?_⟩) (by assumption) ?_
      rotate_left 1
      · intro W' hSw
        obtain ⟨hS1, hS2⟩ := hSw
        go_simp
        try with_reducible rfl
      try simp only [Act.put, List.setIfInBounds_toArray, List.set_cons_zero, List.set_cons_succ]
      refine wpAnyH_take (i := 2) (oi := ⟨_, _, _, _, _, _⟩) (v := ?_) rfl (by kernel_rfl) (by kernel_rfl) (by kernel_rfl) (fun _ _ _ h => h) (Or.inl ⟨by rfl, ?_⟩) (by assumption) ?_
      rotate_left 1
      · intro W' hSw
        obtain ⟨hS1, hS2⟩ := hSw
        go_simp
        try with_reducible rfl
      try simp only [Act.put, List.setIfInBounds_toArray, List.set_cons_zero, List.set_cons_succ]
      refine wpAnyH_take (i := 3) (oi := ⟨_, _, _, _, _, _⟩) (v := ?_) rfl (by kernel_rfl) (by kernel_rfl) (by kernel_rfl) (fun _ _ _ h => h) (Or.inl ⟨by rfl, ?_⟩) (by assumption) ?_
      rotate_left 1
      · intro W' hSw
        obtain ⟨hS1, hS2⟩ := hSw
        go_simp
        try with_reducible rfl
      try simp only [Act.put, List.setIfInBounds_toArray, List.set_cons_zero, List.set_cons_succ]
      refine wpAnyH_take (i := 4) (oi := ⟨_, _, _, _, _, _⟩) (v := ?_) rfl (by kernel_rfl) (by kernel_rfl) (by kernel_rfl) (fun _ _ _ h => h) (Or.inl ⟨by rfl, ?_⟩) (by assumption) ?_
      rotate_left 1
      · intro W' hSw
        obtain ⟨hS1, hS2⟩ := hSw
        go_simp
        try with_reducible rfl
      try simp only [Act.put, List.setIfInBounds_toArray, List.set_cons_zero, List.set_cons_succ]
      refine wpAnyH_take (i := 5) (oi := ⟨_, _, _, _, _, _⟩) (v := ?_) rfl (by kernel_rfl) (by kernel_rfl) (by kernel_rfl) (fun _ _ _ h => h) (Or.inl ⟨by rfl, ?_⟩) (by assumption) ?_
      rotate_left 1
      · intro W' hSw
        obtain ⟨hS1, hS2⟩ := hSw
        go_simp
        try with_reducible rfl
      try simp only [Act.put, List.setIfInBounds_toArray, List.set_cons_zero, List.set_cons_succ]
      refine wpAnyH_done (by kernel_rfl) ?_ _
      go_wp2_with fail
      refine ⟨rfl, rfl, ⟨rfl, rfl, HK', i + 1, by omega, ?_, HQ'⟩, ?_⟩
      · show Value.int .i64 _ = _
        go_num
      · show n - (intOf (Value.int .i64 _)).toNat < n - (intOf (F 5)).toNat
        rw [H5.out]
        simp [intOf]; omega
  · obtain rfl : i = n := by omega
    have hin' : ¬ ((i : Int) < (i : Int)) := by omega
    have hrs : res = false := by
      rw [HRES.out]
      refine decide_eq_false (fun h => ?_)
      obtain ⟨j, hj⟩ := List.mem_iff_getElem?.1 h
      exact HQ.out j (by rw [← HW.out.1]; exact (List.getElem?_eq_some_iff.1 hj).1) hj
    have HXE : Hid (W.Extends W2) := by show W.Extends W2; rw [hV]; exact extends_drewN HX.out _
    clear HQ HRES hV HK
    subst hrs
    go_wp2_with fail
    go_ret
    exact ⟨rfl, HXE.out⟩
end Go.Proofs.Qxb6500788a
