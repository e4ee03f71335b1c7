import Derived.Test.Qxb6500788aJh
import Derived.StillTailTactics
import Derived.Deep.QuietTactic
import Derived.BigQuiet
import Derived.Deep.RegionHeld
import Derived.Deep.CutRange
import Derived.Laws.ResultCell
import Derived.Laws.Rows
import Derived.DeepKeys
import Derived.DataBytes
import Derived.Laws.StructEq
import Derived.Laws.AppendOwn
import Derived.Laws.MakeOwn
set_option linter.unusedSimpArgs false
set_option linter.unusedVariables false
namespace Go.Proofs.Qxb6500788a
open Go.RowKit Go.Blk
attribute [local go_sem ↓] execOp_load execOp_store execOp_alloc
attribute [local go_sem] Try.ld24 Try.st24 Try.ld25 Try.st25 Try.ld3 Try.st3 Try.ld30 Try.st30 Try.ld36 Try.st36 Try.ld4 Try.st4 Try.ld41 Try.st41 Try.ld50 Try.st50 Try.ld40 Try.st40 Try.ld42 Try.st42 Try.ld89 Try.st89 Try.ld91 Try.st91 Try.ld56 Try.st56 Try.ld97 Try.st97 Try.ld98 Try.st98 Try.ld101 Try.st101 Try.ld104 Try.st104 Try.ld57 Try.st57 Try.ld130 Try.st130 Try.ld2 Try.st2 Try.ld5 Try.st5 Try.ld9 Try.st9 Try.ld12 Try.st12 Try.ld21 Try.st21 Try.ld22 Try.st22 Try.ld29 Try.st29 Try.ld33 Try.st33 Try.ld59 Try.st59 Try.ld62 Try.st62 Try.ld69 Try.st69 Try.ld94 Try.st94 Try.ld96 Try.st96 Try.ld129 Try.st129 Try.ld158 Try.st158 Try.ld162 Try.st162 Try.ld47 Try.st47 Try.ld44 Try.st44 Try.ld137 Try.st137 Try.ld145 Try.st145 Try.ld43 Try.st43 Try.ld27 Try.st27 Try.ld38 Try.st38 Try.ld46 Try.st46 Try.ld49 Try.st49 Try.ld52 Try.st52 Try.ld54 Try.st54 Try.ld61 Try.st61 Try.ld80 Try.st80 Try.ld87 Try.st87 Try.ld93 Try.st93 Try.ld100 Try.st100 Try.ld103 Try.st103 Try.ld106 Try.st106 Try.ld109 Try.st109 Try.ld132 Try.st132 Try.ld147 Try.st147 Try.al47 Try.al44 Try.al137 Try.al145 Try.al43 Try.al27 Try.al38 Try.al46 Try.al49 Try.al52 Try.al54 Try.al61 Try.al80 Try.al87 Try.al93 Try.al100 Try.al103 Try.al106 Try.al109 Try.al132 Try.al147
attribute [local go_sem] GProgram.length_enc GProgram.ok_enc GProgram.all_get GProgram.all_set GProgram.preds_get GProgram.preds_set GProgram.rules_get GProgram.rules_set GProgram.strata_get GProgram.strata_set Answer.length_enc Answer.ok_enc Answer.all_get Answer.all_set Answer.code_get Answer.code_set Answer.n_get Answer.n_set Answer.rows_get Answer.rows_set Term.length_enc Term.ok_enc Term.all_get Term.all_set Term.var_get Term.var_set Term.n_get Term.n_set Atom.length_enc Atom.ok_enc Atom.all_get Atom.all_set Atom.pred_get Atom.pred_set Atom.args_get Atom.args_set GRule.length_enc GRule.ok_enc GRule.all_get GRule.all_set GRule.head_get GRule.head_set GRule.body_get GRule.body_set GRule.head_pred_get GRule.head_pred_set GRule.head_args_get GRule.head_args_set GOp.length_enc GOp.ok_enc GOp.all_get GOp.all_set GOp.kind_get GOp.kind_set GOp.pred_get GOp.pred_set GOp.t_get GOp.t_set GOp.n_get GOp.n_set GOp.base_get GOp.base_set GOp.rule_get GOp.rule_set GOp.rule_head_get GOp.rule_head_set GOp.rule_body_get GOp.rule_body_set GOp.rule_head_pred_get GOp.rule_head_pred_set GOp.rule_head_args_get GOp.rule_head_args_set PredInfo.length_enc PredInfo.ok_enc PredInfo.all_get PredInfo.all_set PredInfo.arity_get PredInfo.arity_set PredInfo.base_get PredInfo.base_set PredInfo.stratum_get PredInfo.stratum_set GStats.length_enc GStats.ok_enc GStats.all_get GStats.all_set GStats.rounds_get GStats.rounds_set GStats.fired_get GStats.fired_set GStats.emitted_get GStats.emitted_set GStats.fresh_get GStats.fresh_set Literal.length_enc Literal.ok_enc Literal.all_get Literal.all_set Literal.neg_get Literal.neg_set Literal.atom_get Literal.atom_set Literal.atom_pred_get Literal.atom_pred_set Literal.atom_args_get Literal.atom_args_set Engine.length_enc Engine.ok_enc Engine.all_get Engine.all_set Engine.prog_get Engine.prog_set Engine.st_get Engine.st_set Engine.levels_get Engine.levels_set Engine.running_get Engine.running_set Engine.stratum_get Engine.stratum_set Engine.round_get Engine.round_set Engine.saved_get Engine.saved_set Engine.stats_get Engine.stats_set Engine.prog_preds_get Engine.prog_preds_set Engine.prog_rules_get Engine.prog_rules_set Engine.prog_strata_get Engine.prog_strata_set Engine.stats_rounds_get Engine.stats_rounds_set Engine.stats_fired_get Engine.stats_fired_set Engine.stats_emitted_get Engine.stats_emitted_set Engine.stats_fresh_get Engine.stats_fresh_set Level.length_enc Level.ok_enc Level.all_get Level.all_set Level.heads_get Level.heads_set Level.jobs_get Level.jobs_set Plan.length_enc Plan.ok_enc Plan.all_get Plan.all_set Plan.rule_get Plan.rule_set Plan.delta_get Plan.delta_set Plan.src_get Plan.src_set Job.length_enc Job.ok_enc Job.all_get Job.all_set Job.full_get Job.full_set Job.deltas_get Job.deltas_set Job.full_rule_get Job.full_rule_set Job.full_delta_get Job.full_delta_set Job.full_src_get Job.full_src_set GState.length_enc GState.ok_enc GState.all_get GState.all_set GState.prog_get GState.prog_set GState.base_get GState.base_set GState.shown_get GState.shown_set GState.prog_preds_get GState.prog_preds_set GState.prog_rules_get GState.prog_rules_set GState.prog_strata_get GState.prog_strata_set Store.length_enc Store.ok_enc Store.all_get Store.all_set Store.arity_get Store.arity_set Store.rows_get Store.rows_set Env.length_enc Env.ok_enc Env.all_get Env.all_set Env.val_get Env.val_set Env.set_get Env.set_set
attribute [local go_sem] size_put size_ext blk_put free_put blk_alloc free_alloc blk_drew free_drew blk_ext free_ext lookOr_some putOr_some segAt_some cellAt_some storeIn_some put_put put_alloc_new length_arr ok_arr_u8 ok_arr_u32 ok_arr_u64 ok_arr_i64 ok_arr_sl cellsV_agg cellsV_int cellsV_bool cellsV_string cellsV_pointer cellsV_slice cellsV_sl ok_int ok_bool ok_string ok_pointer ok_slice ok_sl toList_arr seg_arr set_arr nth_splice nth_splice0 seg_splice seg_splice0 splice_splice splice_splice0 length_splice_if
attribute [local go_sem ↓] execOp_box
attribute [local go_sem] box_run nth_arr_u8 put_arr_u8 blk_drewN free_drewN put_drewN blk_raw free_raw
abbrev isR (l : Lab) : Prop := ∃ m, l = .a 8 m
theorem isR_no : ¬ isR .no := by rintro ⟨m, e⟩; cases e
/-- Rows of rows of their own: they may grow. -/
structure RelO (W0 : World) (bo n : Nat) (T : Nat → List Tup) (O : Own) (V : World) : Prop where
  ext : W0.Extends V
  new : W0.heap.size ≤ bo
  old : ∀ k, k < W0.heap.size → O k = .no
  lab : O bo = .a 8 0
  free : free V bo = true
  rows : ∃ C, blk V bo = some C ∧ C.length = n ∧ ∀ q, q < n → ∃ a m c, nth C q = some (.slice a m c) ∧ RowL W0.heap.size O (.a 8 (q + 1)) V 44 4 (.slice a m c) (T q).length ((T q).flatMap tpl)
theorem RelO.grow {W0 : World} {bo n : Nat} {T : Nat → List Tup} {O : Own} {V V' : World} (h : RelO W0 bo n T O V) (he : V.Extends V') : RelO W0 bo n T (Go.Proofs.Qxb6500788a.lab O V.heap.size .no) V' := by
  obtain ⟨C, h1, h2, h3⟩ := h.rows
  have hlt := blk_lt h1
  refine ⟨h.ext.trans he, h.new, fun k hk => ?_, by rw [lab_lt hlt]; exact h.lab, (free_of_heap (he.block bo hlt)).trans h.free, C, (he.blk hlt).trans h1, h2, fun q hq => ?_⟩
  · rw [lab_lt (Nat.lt_of_lt_of_le hk h.ext.size)]; exact h.old k hk
  · obtain ⟨a, m, c, g1, g2⟩ := h3 q hq
    exact ⟨a, m, c, g1, g2.keep (fun k hk _ => ⟨he.block k hk, lab_lt hk⟩)⟩
theorem RelO.congr {W0 : World} {bo n : Nat} {T T' : Nat → List Tup} {O : Own} {V : World} (h : RelO W0 bo n T O V) (he : ∀ q, q < n → T q = T' q) : RelO W0 bo n T' O V := by
  obtain ⟨C, h1, h2, h3⟩ := h.rows
  refine ⟨h.ext, h.new, h.old, h.lab, h.free, C, h1, h2, fun q hq => ?_⟩
  rw [← he q hq]; exact h3 q hq
def slOf : Value → Sl
  | .slice a n c => ⟨a, n, c⟩
  | _ => ⟨none, 0, 0⟩
theorem RelR.sub {W W' : World} {a : Option Addr} {n : Nat} {T : Nat → List Tup} (h : RelR W a n T) (hs : Sub W W') : RelR W' a n T := by
  obtain ⟨Ds, h1, h2⟩ := h
  exact ⟨Ds, h1.sub hs, fun q d hd => (h2 q d hd).sub hs⟩
theorem newc_sub (n : Nat) (V : World) : Sub (newc n V) V := fun _ _ hb => (newc_blk hb).1
theorem RowL.nw {α : Type} {e : α → List Value} {sz : Nat} (hsz : ∀ x, (e x).length = sz) {B : Nat} {O : Own} {l : Lab} {W : World} {ty : TypeId} {a : Option Addr} {n c : Nat} {K : List α} (h : RowL B O l W ty sz (.slice a n c) K.length (K.flatMap e)) : Rw e sz (newc B W) a n K := (h.rw hsz).1.tocore (fun b C e _ => lab_ge (row_at h.1 b (by rw [e]; rfl)).1)
theorem RelO.relN {W0 : World} {bo n : Nat} {T : Nat → List Tup} {O : Own} {V : World} (h : RelO W0 bo n T O V) : RelR (newc W0.heap.size V) (some ⟨bo, 0, none⟩) n T := by
  obtain ⟨C, h1, h2, h3⟩ := h.rows
  have key : ∀ q d, (C.map slOf)[q]? = some d → q < n ∧ ∃ a m c, d = ⟨a, m, c⟩ ∧ nth C q = some (.slice a m c) ∧ Rw tpl 4 (newc W0.heap.size V) a m (T q) := fun q d hd => by
    have hq : q < n := by
      have := (List.getElem?_eq_some_iff.1 hd).1
      rw [List.length_map] at this; omega
    obtain ⟨a, m, c, g1, g2⟩ := h3 q hq
    refine ⟨hq, a, m, c, ?_, g1, g2.nw tpl_len⟩
    have g1' : C[q]? = some (.slice a m c) := g1
    rw [List.getElem?_map, g1'] at hd
    exact (Option.some.inj hd).symm
  refine ⟨C.map slOf, ⟨by rw [List.length_map, h2], fun q d hd => ?_⟩, fun q d hd => ?_⟩
  · obtain ⟨hq, a, m, c, rfl, g1, g2⟩ := key q d hd
    refine ⟨bo, C, rfl, blk_newc h1 h.new, by omega, ?_⟩
    rw [Nat.mul_one]
    exact seg_nth1 g1
  · obtain ⟨hq, a, m, c, rfl, g1, g2⟩ := key q d hd
    exact g2
theorem RelO.relR {W0 : World} {bo n : Nat} {T : Nat → List Tup} {O : Own} {V : World} (h : RelO W0 bo n T O V) : RelR V (some ⟨bo, 0, none⟩) n T := h.relN.sub (newc_sub _ _)
def updT (T : Nat → List Tup) (q : Nat) (t : Tup) : Nat → List Tup := fun x => if x = q then T q ++ [t] else T x
theorem RelO.at {W0 : World} {bo n : Nat} {T : Nat → List Tup} {O : Own} {V : World} (h : RelO W0 bo n T O V) {q : Nat} (hq : q < n) : ∃ C a m c, blk V bo = some C ∧ q < C.length ∧ nth C q = some (.slice a m c) ∧ Rw tpl 4 V a m (T q) := by
  obtain ⟨C, h1, h2, h3⟩ := h.rows
  obtain ⟨a, m, c, g1, g2⟩ := h3 q hq
  exact ⟨C, a, m, c, h1, by omega, g1, (g2.rw tpl_len).1⟩
theorem RelO.app {W0 : World} {bo n : Nat} {T : Nat → List Tup} {O : Own} {V : World} (h : RelO W0 bo n T O V) {q : Nat} (hq : q < n) (t : Tup) (hl : (T q).length ≤ 10000000000) : ∃ C a m c a' c' V' O', blk V bo = some C ∧ q < C.length ∧ nth C q = some (.slice a m c) ∧ (Builtin.append_ #[36, 36] 36 #[.slice a m c, .slice (some ⟨V.heap.size, 0, none⟩) 1 1]).run Try.prog (V.alloc (.cells (arr i64v t).toArray 44)) = .ok (.slice a' (m + 1) c') V' ∧ blk V' bo = some C ∧ Blk.free V' bo = true ∧ Fr isR O V O' V' ∧ Fr isR O V O' (put V' bo (splice C q [.slice a' (m + 1) c'])) ∧ RelO W0 bo n (updT T q t) O' (put V' bo (splice C q [.slice a' (m + 1) c'])) := by
  obtain ⟨C, h1, h2, h3⟩ := h.rows
  obtain ⟨a, m, c, g1, g2⟩ := h3 q hq
  obtain ⟨a', c', V', hrun, hrow, hfr⟩ := appL tpl 4 32 36 44 Try.underlying36 info44 tpl_len tpl_one (by omega) (by omega) 36 t g2 h.ext.size hl (arr i64v t).toArray rfl 1
  have hlt := blk_lt h1
  have n0 : ∀ x, ¬ (Lab.a 8 0 = .a 8 (x + 1)) := fun x e => by have := (Lab.a.inj e).2; omega
  have hb : blk V' bo = some C := hfr.blk h1 (by rw [h.lab]; exact n0 q)
  have hf : Blk.free V' bo = true := hfr.free h1 h.free (by rw [h.lab]; exact n0 q)
  have hF1 : Fr isR O V (Go.Proofs.Qxb6500788a.lab O V.heap.size (.a 8 (q + 1))) V' := hfr.mono (fun l e => ⟨q + 1, e⟩)
  have hO : Go.Proofs.Qxb6500788a.lab O V.heap.size (.a 8 (q + 1)) bo = .a 8 0 := by rw [lab_lt hlt]; exact h.lab
  refine ⟨C, a, m, c, a', c', V', _, h1, by omega, g1, hrun, hb, hf, hF1, hF1.put (by rw [hO]; exact ⟨0, rfl⟩) _, ?_⟩
  have hkeep : ∀ {x : Nat} {v : Value} {k : Nat} {xs : List Value}, RowL W0.heap.size (Go.Proofs.Qxb6500788a.lab O V.heap.size (.a 8 (q + 1))) (.a 8 (x + 1)) V' 44 4 v k xs → RowL W0.heap.size (Go.Proofs.Qxb6500788a.lab O V.heap.size (.a 8 (q + 1))) (.a 8 (x + 1)) (put V' bo (splice C q [.slice a' (m + 1) c'])) 44 4 v k xs := fun hr => hr.keep (fun b hb hl => ⟨by
    rw [heap_put, if_neg (fun e : b = bo => by rw [e, hO] at hl; exact n0 _ hl)], rfl⟩)
  refine ⟨extends_put (hfr.extends h.ext (fun k hk e => by rw [h.old k hk] at e; cases e)) h.new _, h.new, fun k hk => by rw [lab_lt (Nat.lt_of_lt_of_le hk h.ext.size)]; exact h.old k hk, hO, by rw [free_put]; exact hf, splice C q [.slice a' (m + 1) c'], by rw [blk_put, if_pos rfl, hb]; rfl, by rw [length_splice1 (by omega)]; exact h2, fun x hx => ?_⟩
  rw [splice_nth (by omega)]
  unfold updT
  by_cases hxq : x = q
  · subst hxq
    rw [if_pos rfl, if_pos rfl]
    refine ⟨a', m + 1, c', rfl, hkeep hrow⟩
  · rw [if_neg hxq, if_neg hxq]
    obtain ⟨a2, m2, c2, k1, k2⟩ := h3 x hx
    exact ⟨a2, m2, c2, k1, hkeep (k2.fr hfr (fun e => hxq (by have := (Lab.a.inj e).2; omega)))⟩
theorem relO_new (W : World) (n : Nat) (V : World) (he : W.Extends V) (bo : Nat) (hb : blk V bo = some (List.replicate n (Value.slice none 0 0))) (hf : free V bo = true) (hn : W.heap.size ≤ bo) : RelO W bo n (fun _ => []) (lab (fun _ => .no) W.heap.size (.a 8 0)) V :=
  ⟨he, hn, fun k hk => lab_lt hk, lab_ge hn, hf, _, hb, by simp, fun q hq => ⟨none, 0, 0, by unfold nth; rw [List.getElem?_replicate, if_pos hq], RowL.nil _ _ _ _ _ _⟩⟩
/-- The copy so far. -/
def cpT (T : Nat → List Tup) (i j : Nat) : Nat → List Tup := fun x => if x < i then T x else if x = i then (T x).take j else []
theorem cpT_upd {T : Nat → List Tup} {i j : Nat} {t : Tup} (h : (T i)[j]? = some t) : updT (cpT T i j) i t = cpT T i (j + 1) := by
  funext x
  unfold updT cpT
  by_cases hx : x = i
  · subst hx
    rw [if_pos rfl, if_neg (by omega), if_pos rfl, if_neg (by omega), if_pos rfl, take_at h]
  · rw [if_neg hx]
    by_cases h1 : x < i
    · rw [if_pos h1, if_pos h1]
    · rw [if_neg h1, if_neg hx, if_neg h1, if_neg hx]
theorem cpT_next {T : Nat → List Tup} {i : Nat} : cpT T i (T i).length = cpT T (i + 1) 0 := by
  funext x
  unfold cpT
  by_cases hx : x = i
  · subst hx
    rw [if_neg (by omega), if_pos rfl, if_pos (by omega), List.take_of_length_le (Nat.le_refl _)]
  · by_cases h1 : x < i
    · rw [if_pos h1, if_pos (by omega)]
    · rw [if_neg h1, if_neg hx, if_neg (by omega)]
      by_cases h2 : x = i + 1
      · rw [if_pos h2]; simp
      · rw [if_neg h2]
theorem cpT_zero {T : Nat → List Tup} : cpT T 0 0 = fun _ => [] := by
  funext x
  unfold cpT
  rw [if_neg (Nat.not_lt_zero _)]
  by_cases h : x = 0
  · rw [if_pos h]; simp
  · rw [if_neg h]
def cqI (W : World) (a : Option Addr) (n c bo : Nat) (T : Nat → List Tup) (f : Nat → Value) (V : World) : Prop := f 0 = .slice a n c ∧ f 3 = .slice (some ⟨bo, 0, none⟩) n n ∧ ∃ i : Nat, i ≤ n ∧ f 4 = .int .i64 (i : Nat) ∧ Hid (∃ O, RelO W bo n (cpT T i 0) O V)
def crI (W : World) (a : Option Addr) (n c bo i : Nat) (T : Nat → List Tup) (f : Nat → Value) (V : World) : Prop := f 0 = .slice a n c ∧ f 3 = .slice (some ⟨bo, 0, none⟩) n n ∧ f 4 = .int .i64 (i : Nat) ∧ ∃ j : Nat, j ≤ (T i).length ∧ f 5 = .int .i64 (j : Nat) ∧ Hid (∃ O, RelO W bo n (cpT T i j) O V)
attribute [local go_sem ↓] execOp_bslice execOp_make
attribute [local go_sem] bslice36 make57
set_option maxRecDepth 100000 in
theorem frame41c (f : Nat → Value) : frameN 41 f = #[f 0, f 1, f 2, f 3, f 4, f 5, f 6, f 7, f 8, f 9, f 10, f 11, f 12, f 13, f 14, f 15, f 16, f 17, f 18, f 19, f 20, f 21, f 22, f 23, f 24, f 25, f 26, f 27, f 28, f 29, f 30, f 31, f 32, f 33, f 34, f 35, f 36, f 37, f 38, f 39, f 40] := by kernel_rfl
set_option maxRecDepth 20000 in
set_option maxHeartbeats 1000000 in
theorem copyOf_any (W : World) (a : Option Addr) (n c : Nat) (T : Nat → List Tup) (hR : RelR W a n T) (hn : n ≤ 100) (hT : ∀ q, q < n → (T q).length ≤ 10000000000) : Calls Try.prog 57 #[.slice a n c] W fun e V => ∃ bo O, e = .returned (.slice (some ⟨bo, 0, none⟩) n n) ∧ RelO W bo n T O V := by
  obtain ⟨Q, hQ⟩ : ∃ Q, Q = (fun e V => ∃ bo O, e = .returned (.slice (some ⟨bo, 0, none⟩) n n) ∧ RelO W bo n T O V : Ending → World → Prop) := ⟨_, rfl⟩
  rw [← hQ]
  have HQ := hid_of hQ
  have HR := hid_of hR
  have HT := hid_of hT
  clear hQ hR hT
  go_enter Try.func57, Try.ntmps57
  go_upto_region 3 with fail
  refine wp_world (fun V => W.Extends V ∧ blk V W.heap.size = some (List.replicate n (Value.slice none 0 0)) ∧ free V W.heap.size = true) ⟨extends_alloc (ext_Ext (Ext.refl _)) _, ?_, ?_⟩ ?_
  · rw [blk_alloc, if_pos rfl]; simp
  · unfold free
    rw [heap_alloc, if_pos rfl]; rfl
  rintro V1 ⟨hx1, hb1, hf1⟩
  obtain ⟨bo, ebo⟩ : ∃ bo, bo = W.heap.size := ⟨_, rfl⟩
  rw [← ebo] at hb1 hf1 ⊢
  have HI0 : Hid (∃ O, RelO W bo n (cpT T 0 0) O V1) := by
    rw [cpT_zero]
    exact ⟨_, relO_new W n V1 hx1 bo hb1 hf1 (by omega)⟩
  clear hx1 hb1 hf1 ebo
  refine wp_loop_f 41 (cqI W a n c bo T) (fun f _ => n - (intOf (f 4)).toNat) rfl ⟨rfl, rfl, 0, by omega, rfl, HI0⟩ ?_
  clear HI0
  intro F V hrel
  obtain ⟨f0, f3, i, hi, f4, HI⟩ := hrel
  have H4 := hid_of f4
  rw [frame41c, f0, f3, f4]
  clear f0 f3 f4
  by_cases hin : i < n
  · have hin' : (i : Int) < (n : Int) := by omega
    have hTi := HT.out i hin
    go_upto_region 6 with fail
    refine wp_loop_f 41 (crI W a n c bo i T) (fun f _ => (T i).length - (intOf (f 5)).toNat) rfl ⟨rfl, rfl, rfl, 0, by omega, rfl, HI⟩ ?_
    clear HI
    intro F2 V2 hrel
    obtain ⟨f0, f3, f4, j, hj, f5, HI⟩ := hrel
    have H5 := hid_of f5
    rw [frame41c, f0, f3, f4, f5]
    clear f0 f3 f4 f5
    obtain ⟨O, hO⟩ := HI.out
    obtain ⟨br, Cr, ta, tn, tc, rfl, g1, g2, -, g3, g4⟩ := rel_at (HR.out.ext hO.ext) hin
    have htn := g4.1
    subst htn
    have i0 : (0 : Int) ≤ (i : Int) := by omega
    have i2 : ((i : Int)).toNat = i := by omega
    by_cases hin2 : j < (T i).length
    · have hin2' : (j : Int) < ((T i).length : Int) := by omega
      obtain ⟨t, ht⟩ : ∃ t, (T i)[j]? = some t := ⟨_, List.getElem?_eq_getElem hin2⟩
      obtain ⟨bt, Ct, rfl, hCt, hct, _, ut⟩ := tup_at g4 ht
      have hob : ¬ O br = .a 8 0 ∧ ¬ O bt = .a 8 0 ∧ ¬ isR (O br) ∧ ¬ isR (O bt) := by
        have hw1 : br < W.heap.size := by
          obtain ⟨b9, C9, _, _, _, e9, k9, _⟩ := rel_at HR.out hin
          injection e9 with e9; injection e9 with e9
          rw [e9]; exact blk_lt k9
        have hw2 : bt < W.heap.size := by
          obtain ⟨Ds, d1, d2⟩ := HR.out
          obtain ⟨d, b9, C9, u1, e9, u3, u4, u5⟩ := d1.at hin
          injection e9 with e9; injection e9 with e9
          subst e9
          have k9 := (hO.ext.blk (blk_lt u3)).trans u3
          rw [g1] at k9
          injection k9 with k9
          subst k9
          rw [Nat.mul_one] at u5
          have v9 := nth_in (j := 0) u5 rfl (by omega)
          rw [Nat.add_zero, g3] at v9
          have v8 : Value.slice (some ⟨bt, 0, none⟩) (T i).length tc = .slice d.a d.len d.cap := Option.some.inj v9
          injection v8 with v8
          obtain ⟨b8, C8, w1, w2, _⟩ := (d2 i d u1).2 j t ht
          rw [w1] at v8
          injection v8 with v8; injection v8 with v8
          rw [v8]; exact blk_lt w2
        rw [hO.old br hw1, hO.old bt hw2]
        exact ⟨fun e => (by cases e), fun e => (by cases e), isR_no, isR_no⟩
      have hOd : RelO W bo n (cpT T i j) (lab O V2.heap.size .no) V2.drew := hO.grow (extends_drew (ext_Ext (Ext.refl _)))
      have hlo : ((cpT T i j) i).length ≤ 10000000000 := by
        have : ((cpT T i j) i).length ≤ (T i).length := by
          unfold cpT
          rw [if_neg (by omega), if_pos rfl, List.length_take]; omega
        omega
      obtain ⟨C, oa, om, oc, a', c', V3, O', q1, q2, q3, hrun, q5, q6, q7, q8, q9⟩ := hOd.app hin t hlo
      rw [cpT_upd ht] at q9
      have q1' : blk V2 bo = some C := q1
      have q2' : i + 1 ≤ C.length := by omega
      have HI' : Hid (∃ O, RelO W bo n (cpT T i (j + 1)) O (put V3 bo (splice C i [.slice a' (om + 1) c']))) := ⟨_, q9⟩
      have hlr : lab O V2.heap.size .no br = O br := lab_lt (blk_lt g1)
      have hlt : lab O V2.heap.size .no bt = O bt := lab_lt (blk_lt hCt)
      have hbr3 : blk V3 br = some Cr := q7.blk (W := V2.drew) g1 (by rw [hlr]; exact hob.2.2.1)
      have hbt3 : blk V3 bt = some Ct := q7.blk (W := V2.drew) hCt (by rw [hlt]; exact hob.2.2.2)
      have nr : ¬ br = bo := fun e => hob.1 (by rw [e]; exact hO.lab)
      have nt : ¬ bt = bo := fun e => hob.2.1 (by rw [e]; exact hO.lab)
      have j0 : (0 : Int) ≤ (j : Int) := by omega
      have j2 : ((j : Int)).toNat = j := by omega
      have j5 : j * 4 < Ct.length := by omega
      have mbo : ¬ bo = V2.heap.size := Nat.ne_of_lt (blk_lt q1')
      have mbr : ¬ br = V2.heap.size := Nat.ne_of_lt (blk_lt g1)
      have mbt : ¬ bt = V2.heap.size := Nat.ne_of_lt (blk_lt hCt)
      have hal : ∀ X, blk (V2.drew.alloc X) br = some Cr ∧ blk (V2.drew.alloc X) bt = some Ct := fun X => ⟨((extends_alloc (ext_Ext (Ext.refl _)) X : V2.drew.Extends _).blk (blk_lt g1)).trans g1, ((extends_alloc (ext_Ext (Ext.refl _)) X : V2.drew.Extends _).blk (blk_lt hCt)).trans hCt⟩
      have hfin : ∀ X, blk (put V3 bo X) br = some Cr ∧ blk (put V3 bo X) bt = some Ct := fun X => ⟨by rw [blk_put, if_neg nr]; exact hbr3, by rw [blk_put, if_neg nt]; exact hbt3⟩
      clear HI hO hob hOd hlo q7 q8 q9 hlr hlt ht g4 nr nt q1
      go_upto_region 8 with fail
      refine wp_region_held_drew (S := fun W' => blk W' br = some Cr ∧ blk W' bt = some Ct) (by kernel_rfl) ⟨g1, hCt⟩ (fun hHeld => ?_)
      refine wpAnyH_take (i := 0) (oi := ⟨_, _, _, _, _, _⟩) (v := ?_) rfl (by kernel_rfl) (by kernel_rfl) (by kernel_rfl) (fun _ _ _ h => h) (Or.inl ⟨by rfl, ?_⟩) (by assumption) ?_
      rotate_left 1
      · intro W' hSw
        obtain ⟨hS1, hS2⟩ := hSw
        go_simp
        try with_reducible rfl
      try simp only [Act.put, List.setIfInBounds_toArray, List.set_cons_zero, List.set_cons_succ]
      refine wpAnyH_take (i := 1) (oi := ⟨_, _, _, _, _, _⟩) (v := ?_) rfl (by kernel_rfl) (by kernel_rfl) (by kernel_rfl) (fun _ _ _ h => h) (Or.inl ⟨by rfl, ?_⟩) (by assumption) ?_
      rotate_left 1
      · intro W' hSw
        obtain ⟨hS1, hS2⟩ := hSw
        go_simp
        try with_reducible rfl
      try simp only [Act.put, List.setIfInBounds_toArray, List.set_cons_zero, List.set_cons_succ]
      refine wpAnyH_take (i := 2) (oi := ⟨_, _, _, _, _, _⟩) (v := ?_) rfl (by kernel_rfl) (by kernel_rfl) (by kernel_rfl) (fun _ _ _ h => h) (Or.inl ⟨by rfl, ?_⟩) (by assumption) ?_
      rotate_left 1
      · intro W' hSw
        obtain ⟨hS1, hS2⟩ := hSw
        go_simp
        try with_reducible rfl
      try simp only [Act.put, List.setIfInBounds_toArray, List.set_cons_zero, List.set_cons_succ]
      refine wpAnyH_take (i := 3) (oi := ⟨_, _, _, _, _, _⟩) (v := ?_) rfl (by kernel_rfl) (by kernel_rfl) (by kernel_rfl) (fun _ _ _ h => h) (Or.inl ⟨by rfl, ?_⟩) (by assumption) ?_
      rotate_left 1
      · intro W' hSw
        obtain ⟨hS1, hS2⟩ := hSw
        go_simp
        try with_reducible rfl
      try simp only [Act.put, List.setIfInBounds_toArray, List.set_cons_zero, List.set_cons_succ]
      refine wpAnyH_take (i := 4) (oi := ⟨_, _, _, _, _, _⟩) (v := ?_) rfl (by kernel_rfl) (by kernel_rfl) (by kernel_rfl) (fun _ _ _ h => h) (Or.inl ⟨by rfl, ?_⟩) (by assumption) ?_
      rotate_left 1
      · intro W' hSw
        obtain ⟨hS1, hS2⟩ := hSw
        go_simp
        try with_reducible rfl
      try simp only [Act.put, List.setIfInBounds_toArray, List.set_cons_zero, List.set_cons_succ]
      refine wpAnyH_take (i := 6) (oi := ⟨_, _, _, _, _, _⟩) (v := ?_) rfl (by kernel_rfl) (by kernel_rfl) (by kernel_rfl) (fun _ _ _ h => h) (Or.inl ⟨by rfl, ?_⟩) (by assumption) ?_
      rotate_left 1
      · intro W' hSw
        obtain ⟨hS1, hS2⟩ := hSw
        go_simp
        try with_reducible rfl
      try simp only [Act.put, List.setIfInBounds_toArray, List.set_cons_zero, List.set_cons_succ]
      refine wpAnyH_take (i := 7) (oi := ⟨_, _, _, _, _, _⟩) (v := ?_) rfl (by kernel_rfl) (by kernel_rfl) (by kernel_rfl) (fun _ _ _ h => h) (Or.inl ⟨by rfl, ?_⟩) (by assumption) ?_
      rotate_left 1
      · intro W' hSw
        obtain ⟨hS1, hS2⟩ := hSw
        go_simp
        try with_reducible rfl
      try simp only [Act.put, List.setIfInBounds_toArray, List.set_cons_zero, List.set_cons_succ]
      refine wpAnyH_take (i := 8) (oi := ⟨_, _, _, _, _, _⟩) (v := ?_) rfl (by kernel_rfl) (by kernel_rfl) (by kernel_rfl) (fun _ _ _ h => h) (Or.inl ⟨by rfl, ?_⟩) (by assumption) ?_
      rotate_left 1
      · intro W' hSw
        obtain ⟨hS1, hS2⟩ := hSw
        go_simp
        try with_reducible rfl
      try simp only [Act.put, List.setIfInBounds_toArray, List.set_cons_zero, List.set_cons_succ]
      refine wpAnyH_take (i := 9) (oi := ⟨_, _, _, _, _, _⟩) (v := ?_) rfl (by kernel_rfl) (by kernel_rfl) (by kernel_rfl) (fun _ _ _ h => h) (Or.inl ⟨by rfl, ?_⟩) (by assumption) ?_
      rotate_left 1
      · intro W' hSw
        obtain ⟨hS1, hS2⟩ := hSw
        go_simp
        try with_reducible rfl
      try simp only [Act.put, List.setIfInBounds_toArray, List.set_cons_zero, List.set_cons_succ]
      refine wpAnyH_take (i := 10) (oi := ⟨_, _, _, _, _, _⟩) (v := ?_) rfl (by kernel_rfl) (by kernel_rfl) (by kernel_rfl) (fun _ _ _ h => h) (Or.inl ⟨by rfl, ?_⟩) (by assumption) ?_
      rotate_left 1
      · intro W' hSw
        obtain ⟨hS1, hS2⟩ := hSw
        go_simp
        try with_reducible rfl
      try simp only [Act.put, List.setIfInBounds_toArray, List.set_cons_zero, List.set_cons_succ]
      refine wpAnyH_take (i := 11) (oi := ⟨_, _, _, _, _, _⟩) (v := ?_) rfl (by kernel_rfl) (by kernel_rfl) (by kernel_rfl) (fun _ _ _ h => h) (Or.inl ⟨by rfl, ?_⟩) (by assumption) ?_
      rotate_left 1
      · intro W' hSw
        obtain ⟨hS1, hS2⟩ := hSw
        go_simp
        try with_reducible rfl
      try simp only [Act.put, List.setIfInBounds_toArray, List.set_cons_zero, List.set_cons_succ]
      refine wpAnyH_take (i := 12) (oi := ⟨_, _, _, _, _, _⟩) (v := ?_) rfl (by kernel_rfl) (by kernel_rfl) (by kernel_rfl) (fun _ _ _ h => h) (Or.inl ⟨by rfl, ?_⟩) (by assumption) ?_
      rotate_left 1
      · intro W' hSw
        obtain ⟨hS1, hS2⟩ := hSw
        go_simp
        try with_reducible rfl
      try simp only [Act.put, List.setIfInBounds_toArray, List.set_cons_zero, List.set_cons_succ]
      refine wpAnyH_ready (rs := [5, 13]) (by kernel_rfl) (by simp) ?_
      refine AllReadyH.cons (o := ⟨_, _, _, _, _, _⟩) rfl (fun K' hK => ?_) (AllReadyH.cons (o := ⟨_, _, _, _, _, _⟩) rfl (fun K' hK => ?_) AllReadyH.nil)
      · go_simp
        refine hK.out _ _ ⟨g1, hCt⟩ (fun hHeld => ?_)
        clear hK K'
        try simp only [Act.put, List.setIfInBounds_toArray, List.set_cons_zero, List.set_cons_succ]
        refine wpAnyH_ready (rs := [13]) (by kernel_rfl) (by simp) ?_
        refine AllReadyH.cons (o := ⟨_, _, _, _, _, _⟩) rfl (fun K' hK => ?_) AllReadyH.nil
        go_simp
        refine hK.out _ _ (hal _) (fun hHeld => ?_)
        clear hK K'
        try simp only [Act.put, List.setIfInBounds_toArray, List.set_cons_zero, List.set_cons_succ]
        refine wpAnyH_ready (rs := [14]) (by kernel_rfl) (by simp) ?_
        refine AllReadyH.cons (o := ⟨_, _, _, _, _, _⟩) rfl (fun K' hK => ?_) AllReadyH.nil
        refine wp_append_run _ _ 36 rfl _ _ _ _ rfl rfl hrun ?_
        refine hK.out _ _ ⟨hbr3, hbt3⟩ (fun hHeld => ?_)
        clear hK K'
        try simp only [Act.put, List.setIfInBounds_toArray, List.set_cons_zero, List.set_cons_succ]
        refine wpAnyH_take (i := 15) (oi := ⟨_, _, _, _, _, _⟩) (v := ?_) rfl (by kernel_rfl) (by kernel_rfl) (by kernel_rfl) (fun _ _ _ h => h) (Or.inl ⟨by rfl, ?_⟩) (by assumption) ?_
        rotate_left 1
        · intro W' hSw
          obtain ⟨hS1, hS2⟩ := hSw
          go_simp
          try with_reducible rfl
        try simp only [Act.put, List.setIfInBounds_toArray, List.set_cons_zero, List.set_cons_succ]
        refine wpAnyH_ready (rs := [16]) (by kernel_rfl) (by simp) ?_
        refine AllReadyH.cons (o := ⟨_, _, _, _, _, _⟩) rfl (fun K' hK => ?_) AllReadyH.nil
        go_simp
        refine hK.out _ _ (hfin _) (fun hHeld => ?_)
        clear hK K'
        try simp only [Act.put, List.setIfInBounds_toArray, List.set_cons_zero, List.set_cons_succ]
        refine wpAnyH_done (by kernel_rfl) ?_ _
        clear hHeld hrun
        go_wp2_with fail
        refine ⟨rfl, rfl, ⟨rfl, rfl, rfl, j + 1, by omega, ?_, HI'⟩, ?_⟩
        · show Value.int .i64 _ = _
          go_num
        · show (T i).length - (intOf (Value.int .i64 _)).toNat < (T i).length - (intOf (F2 5)).toNat
          rw [H5.out]
          simp [intOf]; omega
      · go_simp
        refine hK.out _ _ (hal _) (fun hHeld => ?_)
        clear hK K'
        try simp only [Act.put, List.setIfInBounds_toArray, List.set_cons_zero, List.set_cons_succ]
        refine wpAnyH_ready (rs := [5]) (by kernel_rfl) (by simp) ?_
        refine AllReadyH.cons (o := ⟨_, _, _, _, _, _⟩) rfl (fun K' hK => ?_) AllReadyH.nil
        go_simp
        refine hK.out _ _ (hal _) (fun hHeld => ?_)
        clear hK K'
        try simp only [Act.put, List.setIfInBounds_toArray, List.set_cons_zero, List.set_cons_succ]
        refine wpAnyH_ready (rs := [14]) (by kernel_rfl) (by simp) ?_
        refine AllReadyH.cons (o := ⟨_, _, _, _, _, _⟩) rfl (fun K' hK => ?_) AllReadyH.nil
        refine wp_append_run _ _ 36 rfl _ _ _ _ rfl rfl hrun ?_
        refine hK.out _ _ ⟨hbr3, hbt3⟩ (fun hHeld => ?_)
        clear hK K'
        try simp only [Act.put, List.setIfInBounds_toArray, List.set_cons_zero, List.set_cons_succ]
        refine wpAnyH_take (i := 15) (oi := ⟨_, _, _, _, _, _⟩) (v := ?_) rfl (by kernel_rfl) (by kernel_rfl) (by kernel_rfl) (fun _ _ _ h => h) (Or.inl ⟨by rfl, ?_⟩) (by assumption) ?_
        rotate_left 1
        · intro W' hSw
          obtain ⟨hS1, hS2⟩ := hSw
          go_simp
          try with_reducible rfl
        try simp only [Act.put, List.setIfInBounds_toArray, List.set_cons_zero, List.set_cons_succ]
        refine wpAnyH_ready (rs := [16]) (by kernel_rfl) (by simp) ?_
        refine AllReadyH.cons (o := ⟨_, _, _, _, _, _⟩) rfl (fun K' hK => ?_) AllReadyH.nil
        go_simp
        refine hK.out _ _ (hfin _) (fun hHeld => ?_)
        clear hK K'
        try simp only [Act.put, List.setIfInBounds_toArray, List.set_cons_zero, List.set_cons_succ]
        refine wpAnyH_done (by kernel_rfl) ?_ _
        clear hHeld hrun
        go_wp2_with fail
        refine ⟨rfl, rfl, ⟨rfl, rfl, rfl, j + 1, by omega, ?_, HI'⟩, ?_⟩
        · show Value.int .i64 _ = _
          go_num
        · show (T i).length - (intOf (Value.int .i64 _)).toNat < (T i).length - (intOf (F2 5)).toNat
          rw [H5.out]
          simp [intOf]; omega
    · have hin2' : ¬ (j : Int) < ((T i).length : Int) := by omega
      obtain rfl : j = (T i).length := by omega
      have HI' : Hid (∃ O, RelO W bo n (cpT T (i + 1) 0) O V2) := by
        rw [← cpT_next]; exact ⟨O, hO⟩
      clear HI hO g4
      go_wp2_with fail
      refine ⟨rfl, rfl, ⟨rfl, rfl, i + 1, by omega, ?_, HI'⟩, ?_⟩
      · show Value.int .i64 _ = _
        go_num
      · show n - (intOf (Value.int .i64 _)).toNat < n - (intOf (F 4)).toNat
        rw [H4.out]
        simp [intOf]; omega
  · obtain rfl : i = n := by omega
    have hin' : ¬ ((i : Int) < (i : Int)) := by omega
    have HP : Hid (Q (.returned (.slice (some ⟨bo, 0, none⟩) i i)) V) := by
      show Q _ _
      rw [HQ.out]
      obtain ⟨O, hO⟩ := HI.out
      exact ⟨bo, O, rfl, hO.congr (fun q hq => by unfold cpT; rw [if_pos hq])⟩
    clear HI
    go_wp2_with fail
    try go_ret
    exact HP.out
end Go.Proofs.Qxb6500788a
