import Derived.Test.Qxb6500788aMb
import Derived.StillTailTactics
import Derived.Deep.QuietTactic
import Derived.BigQuiet
import Derived.Deep.RegionHeld
import Derived.Deep.CutRange
import Derived.Laws.ResultCell
import Derived.Laws.Rows
import Derived.DeepKeys
import Derived.DataBytes
import Derived.Laws.StructEq
import Derived.Laws.AppendOwn
import Derived.Laws.MakeOwn
set_option linter.unusedSimpArgs false
set_option linter.unusedVariables false
namespace Go.Proofs.Qxb6500788a
open Go.RowKit Go.Blk
attribute [local go_sem ↓] execOp_load execOp_store execOp_alloc
attribute [local go_sem] Try.ld24 Try.st24 Try.ld25 Try.st25 Try.ld3 Try.st3 Try.ld30 Try.st30 Try.ld36 Try.st36 Try.ld4 Try.st4 Try.ld41 Try.st41 Try.ld50 Try.st50 Try.ld40 Try.st40 Try.ld42 Try.st42 Try.ld89 Try.st89 Try.ld91 Try.st91 Try.ld56 Try.st56 Try.ld97 Try.st97 Try.ld98 Try.st98 Try.ld101 Try.st101 Try.ld104 Try.st104 Try.ld57 Try.st57 Try.ld130 Try.st130 Try.ld2 Try.st2 Try.ld5 Try.st5 Try.ld9 Try.st9 Try.ld12 Try.st12 Try.ld21 Try.st21 Try.ld22 Try.st22 Try.ld29 Try.st29 Try.ld33 Try.st33 Try.ld59 Try.st59 Try.ld62 Try.st62 Try.ld69 Try.st69 Try.ld94 Try.st94 Try.ld96 Try.st96 Try.ld129 Try.st129 Try.ld158 Try.st158 Try.ld162 Try.st162 Try.ld47 Try.st47 Try.ld44 Try.st44 Try.ld137 Try.st137 Try.ld145 Try.st145 Try.ld43 Try.st43 Try.ld27 Try.st27 Try.ld38 Try.st38 Try.ld46 Try.st46 Try.ld49 Try.st49 Try.ld52 Try.st52 Try.ld54 Try.st54 Try.ld61 Try.st61 Try.ld80 Try.st80 Try.ld87 Try.st87 Try.ld93 Try.st93 Try.ld100 Try.st100 Try.ld103 Try.st103 Try.ld106 Try.st106 Try.ld109 Try.st109 Try.ld132 Try.st132 Try.ld147 Try.st147 Try.al47 Try.al44 Try.al137 Try.al145 Try.al43 Try.al27 Try.al38 Try.al46 Try.al49 Try.al52 Try.al54 Try.al61 Try.al80 Try.al87 Try.al93 Try.al100 Try.al103 Try.al106 Try.al109 Try.al132 Try.al147
attribute [local go_sem] GProgram.length_enc GProgram.ok_enc GProgram.all_get GProgram.all_set GProgram.preds_get GProgram.preds_set GProgram.rules_get GProgram.rules_set GProgram.strata_get GProgram.strata_set Answer.length_enc Answer.ok_enc Answer.all_get Answer.all_set Answer.code_get Answer.code_set Answer.n_get Answer.n_set Answer.rows_get Answer.rows_set Term.length_enc Term.ok_enc Term.all_get Term.all_set Term.var_get Term.var_set Term.n_get Term.n_set Atom.length_enc Atom.ok_enc Atom.all_get Atom.all_set Atom.pred_get Atom.pred_set Atom.args_get Atom.args_set GRule.length_enc GRule.ok_enc GRule.all_get GRule.all_set GRule.head_get GRule.head_set GRule.body_get GRule.body_set GRule.head_pred_get GRule.head_pred_set GRule.head_args_get GRule.head_args_set GOp.length_enc GOp.ok_enc GOp.all_get GOp.all_set GOp.kind_get GOp.kind_set GOp.pred_get GOp.pred_set GOp.t_get GOp.t_set GOp.n_get GOp.n_set GOp.base_get GOp.base_set GOp.rule_get GOp.rule_set GOp.rule_head_get GOp.rule_head_set GOp.rule_body_get GOp.rule_body_set GOp.rule_head_pred_get GOp.rule_head_pred_set GOp.rule_head_args_get GOp.rule_head_args_set PredInfo.length_enc PredInfo.ok_enc PredInfo.all_get PredInfo.all_set PredInfo.arity_get PredInfo.arity_set PredInfo.base_get PredInfo.base_set PredInfo.stratum_get PredInfo.stratum_set GStats.length_enc GStats.ok_enc GStats.all_get GStats.all_set GStats.rounds_get GStats.rounds_set GStats.fired_get GStats.fired_set GStats.emitted_get GStats.emitted_set GStats.fresh_get GStats.fresh_set Literal.length_enc Literal.ok_enc Literal.all_get Literal.all_set Literal.neg_get Literal.neg_set Literal.atom_get Literal.atom_set Literal.atom_pred_get Literal.atom_pred_set Literal.atom_args_get Literal.atom_args_set Engine.length_enc Engine.ok_enc Engine.all_get Engine.all_set Engine.prog_get Engine.prog_set Engine.st_get Engine.st_set Engine.levels_get Engine.levels_set Engine.running_get Engine.running_set Engine.stratum_get Engine.stratum_set Engine.round_get Engine.round_set Engine.saved_get Engine.saved_set Engine.stats_get Engine.stats_set Engine.prog_preds_get Engine.prog_preds_set Engine.prog_rules_get Engine.prog_rules_set Engine.prog_strata_get Engine.prog_strata_set Engine.stats_rounds_get Engine.stats_rounds_set Engine.stats_fired_get Engine.stats_fired_set Engine.stats_emitted_get Engine.stats_emitted_set Engine.stats_fresh_get Engine.stats_fresh_set Level.length_enc Level.ok_enc Level.all_get Level.all_set Level.heads_get Level.heads_set Level.jobs_get Level.jobs_set Plan.length_enc Plan.ok_enc Plan.all_get Plan.all_set Plan.rule_get Plan.rule_set Plan.delta_get Plan.delta_set Plan.src_get Plan.src_set Job.length_enc Job.ok_enc Job.all_get Job.all_set Job.full_get Job.full_set Job.deltas_get Job.deltas_set Job.full_rule_get Job.full_rule_set Job.full_delta_get Job.full_delta_set Job.full_src_get Job.full_src_set GState.length_enc GState.ok_enc GState.all_get GState.all_set GState.prog_get GState.prog_set GState.base_get GState.base_set GState.shown_get GState.shown_set GState.prog_preds_get GState.prog_preds_set GState.prog_rules_get GState.prog_rules_set GState.prog_strata_get GState.prog_strata_set Store.length_enc Store.ok_enc Store.all_get Store.all_set Store.arity_get Store.arity_set Store.rows_get Store.rows_set Env.length_enc Env.ok_enc Env.all_get Env.all_set Env.val_get Env.val_set Env.set_get Env.set_set
attribute [local go_sem] size_put size_ext blk_put free_put blk_alloc free_alloc blk_drew free_drew blk_ext free_ext lookOr_some putOr_some segAt_some cellAt_some storeIn_some put_put put_alloc_new length_arr ok_arr_u8 ok_arr_u32 ok_arr_u64 ok_arr_i64 ok_arr_sl cellsV_agg cellsV_int cellsV_bool cellsV_string cellsV_pointer cellsV_slice cellsV_sl ok_int ok_bool ok_string ok_pointer ok_slice ok_sl toList_arr seg_arr set_arr nth_splice nth_splice0 seg_splice seg_splice0 splice_splice splice_splice0 length_splice_if
attribute [local go_sem ↓] execOp_box
attribute [local go_sem] box_run nth_arr_u8 put_arr_u8 blk_drewN free_drewN put_drewN blk_raw free_raw
/-- A term's value under a substitution. -/
def sV (σ : Nat → Int) (t : Term) : Int := if t.var then σ t.n.toNat else t.n
/-- An atom's first c columns under a substitution. -/
def sT (a : Atom) (σ : Nat → Int) (c : Nat) : Tup := Vector.ofFn fun i => if i.val < c then sV σ (tA a i.val) else 0
theorem tg_sT (a : Atom) (σ : Nat → Int) (c i : Nat) (hi : i < 4) : tg (sT a σ c) i = if i < c then sV σ (tA a i) else 0 := by
  unfold sT tg
  rw [List.getD_eq_getElem?_getD, List.getElem?_eq_getElem (by simp; omega)]
  simp
theorem gT_sT (a : Atom) (e : Env) (c : Nat) : gT a e c = sT a (eV e) c := rfl
theorem sT_congr {a : Atom} {σ τ : Nat → Int} {c : Nat} (hc : c ≤ 4) (h : ∀ i, i < c → (tA a i).var = true → σ (tA a i).n.toNat = τ (tA a i).n.toNat) : sT a σ c = sT a τ c := by
  apply tg_ext
  intro i hi
  rw [tg_sT _ _ _ _ hi, tg_sT _ _ _ _ hi]
  by_cases h1 : i < c
  · rw [if_pos h1, if_pos h1]
    unfold sV
    by_cases h2 : (tA a i).var = true
    · rw [if_pos h2, if_pos h2]; exact h i h1 h2
    · rw [if_neg h2, if_neg h2]
  · rw [if_neg h1, if_neg h1]
def Agr (e : Env) (σ : Nat → Int) : Prop := ∀ v, v < 32 → eS e v = true → eV e v = σ v
theorem agr_zero (σ : Nat → Int) : Agr Env.zero σ := by
  intro v hv h
  rw [eS_at _ hv] at h
  simp [Env.zero] at h
theorem uniS_cases {a : Atom} {row : Tup} {c : Nat} {e e' : Env} (h : uniS a row c e = some e') : ((tA a c).var = true ∧ (eS e (tA a c).n.toNat = true → eV e (tA a c).n.toNat = tg row c) ∧ e' = eU e (tA a c).n.toNat (tg row c)) ∨ ((tA a c).var = false ∧ (tA a c).n = tg row c ∧ e' = e) := by
  unfold uniS at h
  by_cases hv : (tA a c).var = true
  · rw [if_pos hv] at h
    by_cases hb : eS e (tA a c).n.toNat = true ∧ ¬ eV e (tA a c).n.toNat = tg row c
    · rw [if_pos hb] at h; cases h
    · rw [if_neg hb] at h
      injection h with h
      exact .inl ⟨hv, fun h1 => Classical.byContradiction fun h2 => hb ⟨h1, h2⟩, h.symm⟩
  · rw [if_neg hv] at h
    by_cases hb : (tA a c).n = tg row c
    · rw [if_pos hb] at h; injection h with h; exact .inr ⟨by simpa using hv, hb, h.symm⟩
    · rw [if_neg hb] at h; cases h
theorem uni_sound {a : Atom} {row : Tup} {σ : Nat → Int} {ar : Nat} (hf : Fit a ar) : ∀ {c : Nat} {e e' : Env}, c ≤ ar → uniF a row c e = some e' → Agr e' σ → Agr e σ ∧ ∀ i, i < c → sV σ (tA a i) = tg row i
  | 0, e, e', _, h, hA => by injection h with h; rw [h]; exact ⟨hA, fun i hi => absurd hi (Nat.not_lt_zero _)⟩
  | c + 1, e, e', hc, h, hA => by
    have h' : (uniF a row c e).bind (uniS a row c) = some e' := h
    obtain ⟨e1, h1, h2⟩ := Option.bind_eq_some_iff.1 h'
    obtain ⟨g0, g1, _⟩ := hf.2 c (by omega)
    have key : Agr e1 σ ∧ sV σ (tA a c) = tg row c := by
      rcases uniS_cases h2 with ⟨hv, hs, rfl⟩ | ⟨hv, hs, rfl⟩
      · have hn : (tA a c).n.toNat < 32 := by have := g1 hv; omega
        have hx : tg row c = σ (tA a c).n.toNat := by
          have := hA _ hn (by rw [eS_eU _ hn, if_pos rfl])
          rwa [eV_eU _ hn, if_pos rfl] at this
        refine ⟨fun v hv' hs' => ?_, by unfold sV; rw [if_pos hv]; exact hx.symm⟩
        by_cases hvn : v = (tA a c).n.toNat
        · subst hvn; rw [hs hs', hx]
        · have := hA v hv' (by rw [eS_eU _ hn, if_neg hvn]; exact hs')
          rwa [eV_eU _ hn, if_neg hvn] at this
      · exact ⟨hA, by unfold sV; rw [if_neg (by simp [hv])]; exact hs⟩
    obtain ⟨i1, i2⟩ := uni_sound hf (by omega) h1 key.1
    refine ⟨i1, fun i hi => ?_⟩
    by_cases hic : i = c
    · subst hic; exact key.2
    · exact i2 i (by omega)
theorem uni_set {a : Atom} {row : Tup} {ar : Nat} (hf : Fit a ar) : ∀ {c : Nat} {e e' : Env}, c ≤ ar → uniF a row c e = some e' → (∀ v, eS e v = true → eS e' v = true) ∧ ∀ i, i < c → (tA a i).var = true → eS e' (tA a i).n.toNat = true
  | 0, e, e', _, h => by injection h with h; rw [h]; exact ⟨fun _ h => h, fun i hi => absurd hi (Nat.not_lt_zero _)⟩
  | c + 1, e, e', hc, h => by
    have h' : (uniF a row c e).bind (uniS a row c) = some e' := h
    obtain ⟨e1, h1, h2⟩ := Option.bind_eq_some_iff.1 h'
    obtain ⟨g0, g1, _⟩ := hf.2 c (by omega)
    obtain ⟨i1, i2⟩ := uni_set hf (by omega) h1
    have key : (∀ v, eS e1 v = true → eS e' v = true) ∧ ((tA a c).var = true → eS e' (tA a c).n.toNat = true) := by
      rcases uniS_cases h2 with ⟨hv, hs, rfl⟩ | ⟨hv, hs, rfl⟩
      · have hn : (tA a c).n.toNat < 32 := by have := g1 hv; omega
        refine ⟨fun v h => ?_, fun _ => by rw [eS_eU _ hn, if_pos rfl]⟩
        rw [eS_eU _ hn]
        by_cases hvn : v = (tA a c).n.toNat
        · rw [if_pos hvn]
        · rw [if_neg hvn]; exact h
      · exact ⟨fun _ h => h, fun h => by rw [hv] at h; cases h⟩
    refine ⟨fun v h => key.1 v (i1 v h), fun i hi hv => ?_⟩
    by_cases hic : i = c
    · subst hic; exact key.2 hv
    · exact key.1 _ (i2 i (by omega) hv)
theorem uni_full {a : Atom} {row : Tup} {σ : Nat → Int} {ar : Nat} (hf : Fit a ar) : ∀ {c : Nat} {e : Env}, c ≤ ar → Agr e σ → (∀ i, i < c → sV σ (tA a i) = tg row i) → ∃ e', uniF a row c e = some e' ∧ Agr e' σ
  | 0, e, _, hA, _ => ⟨e, rfl, hA⟩
  | c + 1, e, hc, hA, h => by
    obtain ⟨e1, h1, hA1⟩ := uni_full hf (c := c) (by omega) hA (fun i hi => h i (by omega))
    obtain ⟨g0, g1, _⟩ := hf.2 c (by omega)
    have hx := h c (by omega)
    unfold sV at hx
    show ∃ e', (uniF a row c e).bind (uniS a row c) = some e' ∧ Agr e' σ
    rw [h1]
    show ∃ e', uniS a row c e1 = some e' ∧ Agr e' σ
    unfold uniS
    by_cases hv : (tA a c).var = true
    · rw [if_pos hv] at hx ⊢
      have hn : (tA a c).n.toNat < 32 := by have := g1 hv; omega
      rw [if_neg (fun hb => hb.2 ((hA1 _ hn hb.1).trans hx))]
      refine ⟨_, rfl, fun v hv' hs => ?_⟩
      rw [eV_eU _ hn]
      rw [eS_eU _ hn] at hs
      by_cases hvn : v = (tA a c).n.toNat
      · rw [if_pos hvn, hvn]; exact hx.symm
      · rw [if_neg hvn] at hs ⊢; exact hA1 v hv' hs
    · rw [if_neg hv] at hx ⊢
      rw [if_pos hx]
      exact ⟨e1, rfl, hA1⟩
/-- The environments that the positive literals lead to. -/
def Reach (P : List PredInfo) (S : List (List Tup)) : List (Literal × Nat) → Env → Env → Prop
  | [], e, e' => e = e'
  | z :: Z, e, e' => if z.1.neg then Reach P S Z e e' else ∃ row, row ∈ rowsAt S z.2 ∧ ∃ e1, uniF z.1.atom row (arA P z.1.atom) e = some e1 ∧ Reach P S Z e1 e'
theorem mem_goM {P : List PredInfo} {S : List (List Tup)} {Z0 : List (Literal × Nat)} {hd : Atom} {t : Tup} : ∀ (Z : List (Literal × Nat)) (e : Env) (out : List Tup), t ∈ goM P S Z0 hd Z e out ↔ t ∈ out ∨ ∃ e', Reach P S Z e e' ∧ negs P S Z0 e' = true ∧ t = gT hd e' (arA P hd)
  | [], e, out => by
    show t ∈ (if negs P S Z0 e then addT out (gT hd e (arA P hd)) else out) ↔ _
    by_cases hn : negs P S Z0 e = true
    · rw [if_pos hn, mem_addT]
      exact ⟨fun h => h.elim .inl (fun h => .inr ⟨e, rfl, hn, h⟩), fun h => h.elim .inl (fun ⟨e', h1, h2, h3⟩ => .inr (by rw [show e = e' from h1]; exact h3))⟩
    · rw [if_neg hn]
      exact ⟨.inl, fun h => h.elim id (fun ⟨e', h1, h2, h3⟩ => absurd (by rw [show e = e' from h1]; exact h2) hn)⟩
  | z :: Z, e, out => by
    rw [goM_cons]
    by_cases hn : z.1.neg = true
    · rw [if_pos hn, mem_goM Z e out]
      have : ∀ e', Reach P S (z :: Z) e e' ↔ Reach P S Z e e' := fun e' => by
        show (if z.1.neg then _ else _) ↔ _
        rw [if_pos hn]
      simp only [this]
    · rw [if_neg hn]
      have hre : ∀ e', Reach P S (z :: Z) e e' ↔ ∃ row, row ∈ rowsAt S z.2 ∧ ∃ e1, uniF z.1.atom row (arA P z.1.atom) e = some e1 ∧ Reach P S Z e1 e' := fun e' => by
        show (if z.1.neg then _ else _) ↔ _
        rw [if_neg hn]
      have key : ∀ (rows out : List Tup), t ∈ rows.foldl (stM P S Z0 hd z Z e) out ↔ t ∈ out ∨ ∃ e', (∃ row, row ∈ rows ∧ ∃ e1, uniF z.1.atom row (arA P z.1.atom) e = some e1 ∧ Reach P S Z e1 e') ∧ negs P S Z0 e' = true ∧ t = gT hd e' (arA P hd) := by
        intro rows
        induction rows with
        | nil => intro out; exact ⟨.inl, fun h => h.elim id (fun ⟨_, ⟨_, h, _⟩, _⟩ => by cases h)⟩
        | cons row rows ih =>
          intro out
          rw [List.foldl_cons, ih]
          have hs : t ∈ stM P S Z0 hd z Z e out row ↔ t ∈ out ∨ ∃ e', (∃ e1, uniF z.1.atom row (arA P z.1.atom) e = some e1 ∧ Reach P S Z e1 e') ∧ negs P S Z0 e' = true ∧ t = gT hd e' (arA P hd) := by
            unfold stM
            cases hu : uniF z.1.atom row (arA P z.1.atom) e with
            | none => exact ⟨.inl, fun h => h.elim id (fun ⟨_, ⟨_, h, _⟩, _⟩ => by cases h)⟩
            | some e1 =>
              show t ∈ goM P S Z0 hd Z e1 out ↔ _
              rw [mem_goM Z e1 out]
              refine or_congr Iff.rfl ⟨fun ⟨e', h1, h2⟩ => ⟨e', ⟨e1, rfl, h1⟩, h2⟩, fun ⟨e', ⟨e2, h0, h1⟩, h2⟩ => ?_⟩
              injection h0 with h0
              subst h0
              exact ⟨e', h1, h2⟩
          rw [hs, or_assoc]
          refine or_congr Iff.rfl ⟨fun h => ?_, fun ⟨e', ⟨row', hm, h1⟩, h2⟩ => ?_⟩
          · rcases h with ⟨e', h1, h2⟩ | ⟨e', ⟨row', hm, h1⟩, h2⟩
            · exact ⟨e', ⟨row, List.mem_cons_self .., h1⟩, h2⟩
            · exact ⟨e', ⟨row', List.mem_cons_of_mem _ hm, h1⟩, h2⟩
          · rcases List.mem_cons.1 hm with rfl | hm
            · exact .inl ⟨e', h1, h2⟩
            · exact .inr ⟨e', ⟨row', hm, h1⟩, h2⟩
      rw [key]
      simp only [hre]
/-- Rows hold zeros past their arity. -/
def ZPad (P : List PredInfo) (S : List (List Tup)) (Z : List (Literal × Nat)) : Prop := ∀ z ∈ Z, ∀ row ∈ rowsAt S z.2, ∀ c, arA P z.1.atom ≤ c → c < 4 → tg row c = 0
theorem row_sT {a : Atom} {σ : Nat → Int} {ar : Nat} {row : Tup} (h : ∀ i, i < ar → sV σ (tA a i) = tg row i) (hz : ∀ c, ar ≤ c → c < 4 → tg row c = 0) : row = sT a σ ar := by
  apply tg_ext
  intro c hc
  rw [tg_sT _ _ _ _ hc]
  by_cases h1 : c < ar
  · rw [if_pos h1]; exact (h c h1).symm
  · rw [if_neg h1]; exact hz c (by omega) hc
theorem reach_sound {P : List PredInfo} {S : List (List Tup)} {σ : Nat → Int} : ∀ (Z : List (Literal × Nat)) {e e' : Env}, ZFit P Z → ZPad P S Z → Reach P S Z e e' → Agr e' σ → Agr e σ ∧ ∀ z ∈ Z, z.1.neg = false → sT z.1.atom σ (arA P z.1.atom) ∈ rowsAt S z.2
  | [], e, e', _, _, h, hA => by rw [show e = e' from h]; exact ⟨hA, fun z hz => by cases hz⟩
  | z :: Z, e, e', hf, hp, h, hA => by
    have hf' : ZFit P Z := fun x hx => hf x (List.mem_cons_of_mem _ hx)
    have hp' : ZPad P S Z := fun x hx => hp x (List.mem_cons_of_mem _ hx)
    have h0 : (if z.1.neg then Reach P S Z e e' else ∃ row, row ∈ rowsAt S z.2 ∧ ∃ e1, uniF z.1.atom row (arA P z.1.atom) e = some e1 ∧ Reach P S Z e1 e') := h
    by_cases hn : z.1.neg = true
    · rw [if_pos hn] at h0
      obtain ⟨i1, i2⟩ := reach_sound Z hf' hp' h0 hA
      refine ⟨i1, fun x hx hxn => ?_⟩
      rcases List.mem_cons.1 hx with rfl | hx
      · rw [hn] at hxn; cases hxn
      · exact i2 x hx hxn
    · rw [if_neg hn] at h0
      obtain ⟨row, hr, e1, hu, hre⟩ := h0
      obtain ⟨i1, i2⟩ := reach_sound Z hf' hp' hre hA
      obtain ⟨j1, j2⟩ := uni_sound (hf z (List.mem_cons_self ..)) (Nat.le_refl _) hu i1
      refine ⟨j1, fun x hx hxn => ?_⟩
      rcases List.mem_cons.1 hx with rfl | hx
      · rw [← row_sT j2 (hp x (List.mem_cons_self ..) row hr)]; exact hr
      · exact i2 x hx hxn
theorem reach_set {P : List PredInfo} {S : List (List Tup)} : ∀ (Z : List (Literal × Nat)) {e e' : Env}, ZFit P Z → Reach P S Z e e' → (∀ v, eS e v = true → eS e' v = true) ∧ ∀ z ∈ Z, z.1.neg = false → ∀ i, i < arA P z.1.atom → (tA z.1.atom i).var = true → eS e' (tA z.1.atom i).n.toNat = true
  | [], e, e', _, h => by rw [show e = e' from h]; exact ⟨fun _ h => h, fun z hz => by cases hz⟩
  | z :: Z, e, e', hf, h => by
    have hf' : ZFit P Z := fun x hx => hf x (List.mem_cons_of_mem _ hx)
    have h0 : (if z.1.neg then Reach P S Z e e' else ∃ row, row ∈ rowsAt S z.2 ∧ ∃ e1, uniF z.1.atom row (arA P z.1.atom) e = some e1 ∧ Reach P S Z e1 e') := h
    by_cases hn : z.1.neg = true
    · rw [if_pos hn] at h0
      obtain ⟨i1, i2⟩ := reach_set Z hf' h0
      refine ⟨i1, fun x hx hxn => ?_⟩
      rcases List.mem_cons.1 hx with rfl | hx
      · rw [hn] at hxn; cases hxn
      · exact i2 x hx hxn
    · rw [if_neg hn] at h0
      obtain ⟨row, hr, e1, hu, hre⟩ := h0
      obtain ⟨i1, i2⟩ := reach_set Z hf' hre
      obtain ⟨j1, j2⟩ := uni_set (hf z (List.mem_cons_self ..)) (Nat.le_refl _) hu
      refine ⟨fun v h => i1 v (j1 v h), fun x hx hxn => ?_⟩
      rcases List.mem_cons.1 hx with rfl | hx
      · exact fun i hi hv => i1 _ (j2 i hi hv)
      · exact i2 x hx hxn
theorem reach_full {P : List PredInfo} {S : List (List Tup)} {σ : Nat → Int} : ∀ (Z : List (Literal × Nat)) {e : Env}, ZFit P Z → Agr e σ → (∀ z ∈ Z, z.1.neg = false → sT z.1.atom σ (arA P z.1.atom) ∈ rowsAt S z.2) → ∃ e', Reach P S Z e e' ∧ Agr e' σ
  | [], e, _, hA, _ => ⟨e, rfl, hA⟩
  | z :: Z, e, hf, hA, h => by
    have hf' : ZFit P Z := fun x hx => hf x (List.mem_cons_of_mem _ hx)
    have hre : ∀ e', Reach P S (z :: Z) e e' = (if z.1.neg then Reach P S Z e e' else ∃ row, row ∈ rowsAt S z.2 ∧ ∃ e1, uniF z.1.atom row (arA P z.1.atom) e = some e1 ∧ Reach P S Z e1 e') := fun _ => rfl
    by_cases hn : z.1.neg = true
    · obtain ⟨e', h1, h2⟩ := reach_full Z hf' hA (fun x hx => h x (List.mem_cons_of_mem _ hx))
      exact ⟨e', by rw [hre, if_pos hn]; exact h1, h2⟩
    · have hfz := hf z (List.mem_cons_self ..)
      have h4 := hfz.1
      obtain ⟨e1, hu, hA1⟩ := uni_full (row := sT z.1.atom σ (arA P z.1.atom)) hfz (Nat.le_refl _) hA (fun i hi => by rw [tg_sT _ _ _ _ (by omega), if_pos hi])
      obtain ⟨e', h1, h2⟩ := reach_full Z hf' hA1 (fun x hx => h x (List.mem_cons_of_mem _ hx))
      exact ⟨e', by rw [hre, if_neg hn]; exact ⟨_, h z (List.mem_cons_self ..) (by simpa using hn), e1, hu, h1⟩, h2⟩
/-- Every variable of the atom stands in a positive literal. -/
def Restr (P : List PredInfo) (L : List Literal) (a : Atom) : Prop := ∀ c, c < arA P a → (tA a c).var = true → ∃ l ∈ L, l.neg = false ∧ ∃ i, i < arA P l.atom ∧ (tA l.atom i).var = true ∧ (tA l.atom i).n = (tA a c).n
theorem negs_iff {P : List PredInfo} {S : List (List Tup)} {Z : List (Literal × Nat)} {e : Env} : negs P S Z e = true ↔ ∀ z ∈ Z, z.1.neg = true → gT z.1.atom e (arA P z.1.atom) ∉ rowsAt S z.2 := by
  unfold negs
  rw [List.all_eq_true]
  refine ⟨fun h z hz hn hm => ?_, fun h z hz => ?_⟩
  · have := h z hz
    rw [hn, decide_eq_true hm] at this
    cases this
  · cases hn : z.1.neg
    · rfl
    · rw [decide_eq_false (h z hz hn)]; rfl
/-- What the machine emits: the head's instances under the substitutions that satisfy the body. -/
theorem goM_sem {P : List PredInfo} {S : List (List Tup)} {Z : List (Literal × Nat)} {hd : Atom} (hf : ZFit P Z) (hp : ZPad P S Z) (hh : Fit hd (arA P hd)) (hr : Restr P (Z.map (·.1)) hd) (hn : ∀ z ∈ Z, z.1.neg = true → Restr P (Z.map (·.1)) z.1.atom) (t : Tup) :
    t ∈ goM P S Z hd Z Env.zero [] ↔ ∃ σ : Nat → Int, (∀ z ∈ Z, sT z.1.atom σ (arA P z.1.atom) ∈ rowsAt S z.2 ↔ z.1.neg = false) ∧ t = sT hd σ (arA P hd) := by
  rw [mem_goM]
  constructor
  · rintro (h | ⟨e', h1, h2, h3⟩)
    · cases h
    refine ⟨eV e', fun z hz => ?_, h3⟩
    have hs := (reach_sound Z hf hp h1 (σ := eV e') (fun _ _ _ => rfl)).2
    refine ⟨fun hm => ?_, hs z hz⟩
    cases hzn : z.1.neg
    · rfl
    · exact absurd hm (negs_iff.1 h2 z hz hzn)
  · rintro ⟨σ, h1, h2⟩
    obtain ⟨e', he, hA⟩ := reach_full Z hf (agr_zero σ) (fun z hz hzn => (h1 z hz).2 hzn)
    have hset := (reach_set Z hf he).2
    have key : ∀ a : Atom, Fit a (arA P a) → Restr P (Z.map (·.1)) a → gT a e' (arA P a) = sT a σ (arA P a) := by
      intro a ha hra
      rw [gT_sT]
      refine sT_congr ha.1 (fun i hi hv => ?_)
      obtain ⟨l, hl, hln, j, hj, hjv, hjn⟩ := hra i hi hv
      obtain ⟨z, hz, rfl⟩ := List.mem_map.1 hl
      have hb := (ha.2 i hi).2.1 hv
      have := hset z hz hln j hj hjv
      rw [hjn] at this
      exact hA _ (by have := (ha.2 i hi).1; omega) this
    refine .inr ⟨e', he, negs_iff.2 (fun z hz hzn hm => ?_), by rw [key hd hh hr]; exact h2⟩
    rw [key z.1.atom (hf z hz) (hn z hz hzn)] at hm
    rw [(h1 z hz).1 hm] at hzn
    cases hzn
end Go.Proofs.Qxb6500788a
