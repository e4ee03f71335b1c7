import Derived.Test.Qxb6500788aKa
import Derived.StillTailTactics
import Derived.Deep.QuietTactic
import Derived.BigQuiet
import Derived.Deep.RegionHeld
import Derived.Deep.CutRange
import Derived.Laws.ResultCell
import Derived.Laws.Rows
import Derived.DeepKeys
import Derived.DataBytes
import Derived.Laws.StructEq
import Derived.Laws.AppendOwn
import Derived.Laws.MakeOwn
set_option linter.unusedSimpArgs false
set_option linter.unusedVariables false
namespace Go.Proofs.Qxb6500788a
open Go.RowKit Go.Blk
attribute [local go_sem ↓] execOp_load execOp_store execOp_alloc
attribute [local go_sem] Try.ld24 Try.st24 Try.ld25 Try.st25 Try.ld3 Try.st3 Try.ld30 Try.st30 Try.ld36 Try.st36 Try.ld4 Try.st4 Try.ld41 Try.st41 Try.ld50 Try.st50 Try.ld40 Try.st40 Try.ld42 Try.st42 Try.ld89 Try.st89 Try.ld91 Try.st91 Try.ld56 Try.st56 Try.ld97 Try.st97 Try.ld98 Try.st98 Try.ld101 Try.st101 Try.ld104 Try.st104 Try.ld57 Try.st57 Try.ld130 Try.st130 Try.ld2 Try.st2 Try.ld5 Try.st5 Try.ld9 Try.st9 Try.ld12 Try.st12 Try.ld21 Try.st21 Try.ld22 Try.st22 Try.ld29 Try.st29 Try.ld33 Try.st33 Try.ld59 Try.st59 Try.ld62 Try.st62 Try.ld69 Try.st69 Try.ld94 Try.st94 Try.ld96 Try.st96 Try.ld129 Try.st129 Try.ld158 Try.st158 Try.ld162 Try.st162 Try.ld47 Try.st47 Try.ld44 Try.st44 Try.ld137 Try.st137 Try.ld145 Try.st145 Try.ld43 Try.st43 Try.ld27 Try.st27 Try.ld38 Try.st38 Try.ld46 Try.st46 Try.ld49 Try.st49 Try.ld52 Try.st52 Try.ld54 Try.st54 Try.ld61 Try.st61 Try.ld80 Try.st80 Try.ld87 Try.st87 Try.ld93 Try.st93 Try.ld100 Try.st100 Try.ld103 Try.st103 Try.ld106 Try.st106 Try.ld109 Try.st109 Try.ld132 Try.st132 Try.ld147 Try.st147 Try.al47 Try.al44 Try.al137 Try.al145 Try.al43 Try.al27 Try.al38 Try.al46 Try.al49 Try.al52 Try.al54 Try.al61 Try.al80 Try.al87 Try.al93 Try.al100 Try.al103 Try.al106 Try.al109 Try.al132 Try.al147
attribute [local go_sem] GProgram.length_enc GProgram.ok_enc GProgram.all_get GProgram.all_set GProgram.preds_get GProgram.preds_set GProgram.rules_get GProgram.rules_set GProgram.strata_get GProgram.strata_set Answer.length_enc Answer.ok_enc Answer.all_get Answer.all_set Answer.code_get Answer.code_set Answer.n_get Answer.n_set Answer.rows_get Answer.rows_set Term.length_enc Term.ok_enc Term.all_get Term.all_set Term.var_get Term.var_set Term.n_get Term.n_set Atom.length_enc Atom.ok_enc Atom.all_get Atom.all_set Atom.pred_get Atom.pred_set Atom.args_get Atom.args_set GRule.length_enc GRule.ok_enc GRule.all_get GRule.all_set GRule.head_get GRule.head_set GRule.body_get GRule.body_set GRule.head_pred_get GRule.head_pred_set GRule.head_args_get GRule.head_args_set GOp.length_enc GOp.ok_enc GOp.all_get GOp.all_set GOp.kind_get GOp.kind_set GOp.pred_get GOp.pred_set GOp.t_get GOp.t_set GOp.n_get GOp.n_set GOp.base_get GOp.base_set GOp.rule_get GOp.rule_set GOp.rule_head_get GOp.rule_head_set GOp.rule_body_get GOp.rule_body_set GOp.rule_head_pred_get GOp.rule_head_pred_set GOp.rule_head_args_get GOp.rule_head_args_set PredInfo.length_enc PredInfo.ok_enc PredInfo.all_get PredInfo.all_set PredInfo.arity_get PredInfo.arity_set PredInfo.base_get PredInfo.base_set PredInfo.stratum_get PredInfo.stratum_set GStats.length_enc GStats.ok_enc GStats.all_get GStats.all_set GStats.rounds_get GStats.rounds_set GStats.fired_get GStats.fired_set GStats.emitted_get GStats.emitted_set GStats.fresh_get GStats.fresh_set Literal.length_enc Literal.ok_enc Literal.all_get Literal.all_set Literal.neg_get Literal.neg_set Literal.atom_get Literal.atom_set Literal.atom_pred_get Literal.atom_pred_set Literal.atom_args_get Literal.atom_args_set Engine.length_enc Engine.ok_enc Engine.all_get Engine.all_set Engine.prog_get Engine.prog_set Engine.st_get Engine.st_set Engine.levels_get Engine.levels_set Engine.running_get Engine.running_set Engine.stratum_get Engine.stratum_set Engine.round_get Engine.round_set Engine.saved_get Engine.saved_set Engine.stats_get Engine.stats_set Engine.prog_preds_get Engine.prog_preds_set Engine.prog_rules_get Engine.prog_rules_set Engine.prog_strata_get Engine.prog_strata_set Engine.stats_rounds_get Engine.stats_rounds_set Engine.stats_fired_get Engine.stats_fired_set Engine.stats_emitted_get Engine.stats_emitted_set Engine.stats_fresh_get Engine.stats_fresh_set Level.length_enc Level.ok_enc Level.all_get Level.all_set Level.heads_get Level.heads_set Level.jobs_get Level.jobs_set Plan.length_enc Plan.ok_enc Plan.all_get Plan.all_set Plan.rule_get Plan.rule_set Plan.delta_get Plan.delta_set Plan.src_get Plan.src_set Job.length_enc Job.ok_enc Job.all_get Job.all_set Job.full_get Job.full_set Job.deltas_get Job.deltas_set Job.full_rule_get Job.full_rule_set Job.full_delta_get Job.full_delta_set Job.full_src_get Job.full_src_set GState.length_enc GState.ok_enc GState.all_get GState.all_set GState.prog_get GState.prog_set GState.base_get GState.base_set GState.shown_get GState.shown_set GState.prog_preds_get GState.prog_preds_set GState.prog_rules_get GState.prog_rules_set GState.prog_strata_get GState.prog_strata_set Store.length_enc Store.ok_enc Store.all_get Store.all_set Store.arity_get Store.arity_set Store.rows_get Store.rows_set Env.length_enc Env.ok_enc Env.all_get Env.all_set Env.val_get Env.val_set Env.set_get Env.set_set
attribute [local go_sem] size_put size_ext blk_put free_put blk_alloc free_alloc blk_drew free_drew blk_ext free_ext lookOr_some putOr_some segAt_some cellAt_some storeIn_some put_put put_alloc_new length_arr ok_arr_u8 ok_arr_u32 ok_arr_u64 ok_arr_i64 ok_arr_sl cellsV_agg cellsV_int cellsV_bool cellsV_string cellsV_pointer cellsV_slice cellsV_sl ok_int ok_bool ok_string ok_pointer ok_slice ok_sl toList_arr seg_arr set_arr nth_splice nth_splice0 seg_splice seg_splice0 splice_splice splice_splice0 length_splice_if
attribute [local go_sem ↓] execOp_box
attribute [local go_sem] box_run nth_arr_u8 put_arr_u8 blk_drewN free_drewN put_drewN blk_raw free_raw
abbrev isM (l : Lab) : Prop := (∃ m, l = .a 8 m) ∨ l = .a 7 0
theorem isM_no : ¬ isM .no := by
  rintro (⟨m, e⟩ | e) <;> cases e
theorem isM_E {l : Lab} (h : isE 0 l) : ¬ isM l := by
  rcases h with ⟨n, rfl⟩ | ⟨n, rfl⟩ <;> (rintro (⟨m, e⟩ | e) <;> (injection e with e _; omega))
theorem isE_M {l : Lab} (h : isM l) : ¬ isE 0 l := fun h' => isM_E h' h
theorem RelO.fr {L : Lab → Prop} {W0 : World} {bo n : Nat} {T : Nat → List Tup} {O O' : Own} {V V' : World} (h : RelO W0 bo n T O V) (hf : Fr L O V O' V') (hl : ∀ m, ¬ L (.a 8 m)) (hn : ¬ L .no) : RelO W0 bo n T O' V' := by
  obtain ⟨C, h1, h2, h3⟩ := h.rows
  have hlt := blk_lt h1
  have hs := h.ext.size
  refine ⟨hf.extends h.ext (fun k hk => by rw [h.old k hk]; exact hn), h.new, fun k hk => (hf.keep k (by omega)).trans (h.old k hk), (hf.keep bo hlt).trans h.lab, hf.free h1 h.free (by rw [h.lab]; exact hl 0), C, hf.blk h1 (by rw [h.lab]; exact hl 0), h2, fun q hq => ?_⟩
  obtain ⟨a, m, c, g1, g2⟩ := h3 q hq
  exact ⟨a, m, c, g1, g2.fr hf (hl _)⟩
theorem RelO.atL {W0 : World} {bo n : Nat} {T : Nat → List Tup} {O : Own} {V : World} (h : RelO W0 bo n T O V) {q : Nat} (hq : q < n) : ∃ C a m c, blk V bo = some C ∧ q < C.length ∧ nth C q = some (.slice a m c) ∧ Rw tpl 4 V a m (T q) ∧ ∀ b, a = some ⟨b, 0, none⟩ → O b = .a 8 (q + 1) := by
  obtain ⟨C, h1, h2, h3⟩ := h.rows
  obtain ⟨a, m, c, g1, g2⟩ := h3 q hq
  exact ⟨C, a, m, c, h1, by omega, g1, (g2.rw tpl_len).1, fun b e => g2.2 b (by rw [e]; rfl)⟩
/-- The naive model's state in memory. -/
structure MAt (W0 : World) (O : Own) (V : World) (bm bb bs : Nat) (p : Pg) (T U : Nat → List Tup) : Prop where
  st : ∃ Cm, blk (core O V) bm = some Cm ∧ 5 ≤ Cm.length ∧ nth Cm 3 = some (.slice (some ⟨bb, 0, none⟩) p.P.length p.P.length) ∧ nth Cm 4 = some (.slice (some ⟨bs, 0, none⟩) p.P.length p.P.length)
  pg : PgX (core O V) bm p
  base : RelO W0 bb p.P.length T O V
  shl : O bs = .a 7 0
  shf : free V bs = true
  shown : ∃ C, blk V bs = some C ∧ C.length = p.P.length ∧ ∀ q, q < p.P.length → ∃ a m c, nth C q = some (.slice a m c) ∧ Rw tpl 4 (core O V) a m (U q)
theorem MAt.fr {L : Lab → Prop} {W0 : World} {O O' : Own} {V V' : World} {bm bb bs : Nat} {p : Pg} {T U : Nat → List Tup} (h : MAt W0 O V bm bb bs p T U) (hf : Fr L O V O' V') (hl : ∀ l, isM l → ¬ L l) (hn : ¬ L .no) : MAt W0 O' V' bm bb bs p T U := by
  obtain ⟨Cm, h1, h2, h3, h4⟩ := h.st
  obtain ⟨C, g1, g2, g3⟩ := h.shown
  have hc := Sub.ext (core_fr hf hn)
  have hl7 : ¬ L (O bs) := by rw [h.shl]; exact hl _ (.inr rfl)
  refine ⟨⟨Cm, hc _ _ h1, h2, h3, h4⟩, h.pg.sub hc, h.base.fr hf (fun m => hl _ (.inl ⟨m, rfl⟩)) hn, (hf.keep bs (blk_lt g1)).trans h.shl, hf.free g1 h.shf hl7, C, hf.blk g1 hl7, g2, fun q hq => ?_⟩
  obtain ⟨a, m, c, k1, k2⟩ := g3 q hq
  exact ⟨a, m, c, k1, k2.sub hc⟩
theorem MAt.new {W0 : World} {O : Own} {V V' : World} {bm bb bs : Nat} {p : Pg} {T U : Nat → List Tup} (h : MAt W0 O V bm bb bs p T U) (he : V.Extends V') : MAt W0 (lab O V.heap.size .no) V' bm bb bs p T U := h.fr (Fr.grow (L := fun _ => False) he) (fun _ _ h => h) (fun h => h)
theorem MAt.ext {W0 : World} {O : Own} {V V' : World} {bm bb bs : Nat} {p : Pg} {T U : Nat → List Tup} (h : MAt W0 O V bm bb bs p T U) (he : V.Extends V') : MAt W0 O V' bm bb bs p T U := h.fr (Fr.of_extends (L := fun _ => False) he) (fun _ _ h => h) (fun h => h)
theorem MAt.cell {W0 : World} {O : Own} {V : World} {bm bb bs : Nat} {p : Pg} {T U : Nat → List Tup} (h : MAt W0 O V bm bb bs p T U) : ∃ aP cP Cm, blk V bm = some Cm ∧ 5 ≤ Cm.length ∧ nth Cm 0 = some (.slice aP p.P.length cP) ∧ nth Cm 3 = some (.slice (some ⟨bb, 0, none⟩) p.P.length p.P.length) ∧ nth Cm 4 = some (.slice (some ⟨bs, 0, none⟩) p.P.length p.P.length) := by
  obtain ⟨Cm, h1, h2, h3, h4⟩ := h.st
  obtain ⟨aP, cP, aR, cR, Cb, b1, b2, b3, -⟩ := h.pg
  have : Cm = Cb := Option.some.inj (h1.symm.trans b1)
  subst this
  exact ⟨aP, cP, Cm, (Sub.core O V) _ _ h1, h2, b3, h3, h4⟩
theorem MAt.pgv {W0 : World} {O : Own} {V : World} {bm bb bs : Nat} {p : Pg} {T U : Nat → List Tup} (h : MAt W0 O V bm bb bs p T U) : PgX V bm p := h.pg.sub (Sub.core O V)
/-- A predicate's cells seen from the model's state. -/
theorem MAt.pred {W0 : World} {O : Own} {V : World} {bm bb bs : Nat} {p : Pg} {T U : Nat → List Tup} (h : MAt W0 O V bm bb bs p T U) {q : Nat} (hq : q < p.P.length) : ∃ cP Cm bP CP, blk V bm = some Cm ∧ 5 ≤ Cm.length ∧ nth Cm 0 = some (.slice (some ⟨bP, 0, none⟩) p.P.length cP) ∧ nth Cm 3 = some (.slice (some ⟨bb, 0, none⟩) p.P.length p.P.length) ∧ nth Cm 4 = some (.slice (some ⟨bs, 0, none⟩) p.P.length p.P.length) ∧ blk V bP = some CP ∧ q * 3 + 3 ≤ CP.length ∧ nth CP (q * 3 + 1) = some (.bool (basP p q)) := by
  obtain ⟨aP, cP, Cm, h1, h2, h3, h4, h5⟩ := h.cell
  obtain ⟨cP', Cb, CP, bP, e1, e2, e3, e4, e5, e6, -, -⟩ := pgb_str h.pgv hq
  have : Cm = Cb := Option.some.inj (h1.symm.trans e1)
  subst this
  rw [h3] at e3
  have e := Option.some.inj e3
  injection e with ea _ ec
  subst ea ec
  exact ⟨cP, Cm, bP, CP, h1, h2, h3, h4, h5, e4, e5, e6⟩
/-- What the model shows of a predicate. -/
def rowsM (p : Pg) (T U : Nat → List Tup) (q : Nat) : List Tup := if basP p q = true then T q else U q
/-- A row that does not lie in a scratch block. -/
def RwS (O : Own) (V : World) (a : Option Addr) (m : Nat) (ts : List Tup) : Prop := Rw tpl 4 V a m ts ∧ (ts = [] ∨ ∀ b, a = some ⟨b, 0, none⟩ → O b ≠ .a 6 0)
theorem RwS.nil (O : Own) (V : World) : RwS O V none 0 [] := ⟨rw_nilT V, .inl rfl⟩
theorem RwS.put {O : Own} {V : World} {a : Option Addr} {m : Nat} {ts : List Tup} (h : RwS O V a m ts) {b : Nat} (hb : O b = .a 6 0) (C : List Value) : Rw tpl 4 (put V b C) a m ts := by
  obtain ⟨h1, h2⟩ := h
  rcases h2 with rfl | h2
  · exact ⟨h1.1, fun i x hx => by cases hx⟩
  · refine ⟨h1.1, fun i x hx => ?_⟩
    obtain ⟨b', D, k1, k2, k3⟩ := h1.2 i x hx
    exact ⟨b', D, k1, by rw [blk_put, if_neg (fun e => h2 b' k1 (by rw [e]; exact hb))]; exact k2, k3⟩
theorem RelO.atS {W0 : World} {bo n : Nat} {T : Nat → List Tup} {O : Own} {V : World} (h : RelO W0 bo n T O V) {q : Nat} (hq : q < n) : ∃ C a m c, blk V bo = some C ∧ q < C.length ∧ nth C q = some (.slice a m c) ∧ RwS O V a m (T q) := by
  obtain ⟨C, a, m, c, h1, h2, h3, h4, h5⟩ := h.atL hq
  exact ⟨C, a, m, c, h1, h2, h3, h4, .inr fun b e => by rw [h5 b e]; exact fun e => by injection e with e _; omega⟩
theorem rwS_core {O : Own} {V : World} {a : Option Addr} {m : Nat} {ts : List Tup} (h : Rw tpl 4 (core O V) a m ts) : RwS O V a m ts := by
  refine ⟨h.uncore, ?_⟩
  cases ts with
  | nil => exact .inl rfl
  | cons t ts =>
    refine .inr fun b e ho => ?_
    obtain ⟨b', D, k1, k2, k3⟩ := h.2 0 t rfl
    rw [e] at k1
    have hb : b = b' := by injection k1 with h1; injection h1
    rw [← hb] at k2
    rw [(core_blk k2).2] at ho
    cases ho
set_option maxRecDepth 20000 in
set_option maxHeartbeats 1000000 in
theorem rowsM_any {W0 : World} {O : Own} {V : World} {bm bb bs : Nat} {p : Pg} {T U : Nat → List Tup} (h : MAt W0 O V bm bb bs p T U) (h64 : p.P.length ≤ 64) (q : Nat) (hq : q < p.P.length) : Calls Try.prog 48 #[.pointer (some ⟨bm, 0, none⟩), .int .i64 (q : Int)] V fun e V' => ∃ a m c, e = .returned (.slice a m c) ∧ V' = V ∧ RwS O V a m (rowsM p T U q) := by
  obtain ⟨Q, hQ⟩ : ∃ Q, Q = (fun e V' => ∃ a m c, e = .returned (.slice a m c) ∧ V' = V ∧ RwS O V a m (rowsM p T U q) : Ending → World → Prop) := ⟨_, rfl⟩
  rw [← hQ]
  have HQ := hid_of hQ
  obtain ⟨cP, Cm, bP, CP, e1, e2, e3, e4, e5, e6, e7, e8⟩ := h.pred hq
  obtain ⟨C1, a1, m1, c1, g1, g2, g3, g4⟩ := h.base.atS hq
  obtain ⟨C2, k1, k2, k3⟩ := h.shown
  obtain ⟨a2, m2, c2, k4, k5⟩ := k3 q hq
  have q0 : (0 : Int) ≤ (q : Int) := by omega
  have q1 : (q : Int) < (p.P.length : Int) := by omega
  have q2 : ((q : Int)).toNat = q := by omega
  have x1 : q * 3 + 1 < CP.length := by omega
  have x0 : 0 < Cm.length := by omega
  have x3 : 3 < Cm.length := by omega
  have x4 : 4 < Cm.length := by omega
  have y2 : q < C2.length := by omega
  cases hb : basP p q with
  | true =>
    rw [hb] at e8
    have HP : Hid (Q (.returned (.slice a1 m1 c1)) V) := by
      show Q _ _
      rw [HQ.out]
      exact ⟨_, _, _, rfl, rfl, by unfold rowsM; rw [if_pos hb]; exact g4⟩
    clear hQ h g4 k3 k5 hb
    go_enter Try.func48, Try.ntmps48
    go_wp2_with fail
    try go_ret
    exact HP.out
  | false =>
    rw [hb] at e8
    have HP : Hid (Q (.returned (.slice a2 m2 c2)) V) := by
      show Q _ _
      rw [HQ.out]
      exact ⟨_, _, _, rfl, rfl, by unfold rowsM; rw [if_neg (by rw [hb]; decide)]; exact rwS_core k5⟩
    clear hQ h g4 k3 k5 hb
    go_enter Try.func48, Try.ntmps48
    go_wp2_with fail
    try go_ret
    exact HP.out
/-- The state's five cells. -/
def msE (aP : Option Addr) (N cP : Nat) (aR : Option Addr) (M cR : Nat) (St : Int) (b1 n1 c1 b2 n2 c2 : Nat) : List Value := prgE aP N cP aR M cR St ++ [.slice (some ⟨b1, 0, none⟩) n1 c1, .slice (some ⟨b2, 0, none⟩) n2 c2]
theorem build109 (w : World) (aP : Option Addr) (N cP : Nat) (aR : Option Addr) (M cR : Nat) (St : Int) (b1 n1 c1 b2 n2 c2 : Nat) : (buildOp 109 #[(0, .agg (prgE aP N cP aR M cR St).toArray), (1, .slice (some ⟨b1, 0, none⟩) n1 c1), (2, .slice (some ⟨b2, 0, none⟩) n2 c2)]).run Try.prog w = .ok (.value (.agg (msE aP N cP aR M cR St b1 n1 c1 b2 n2 c2).toArray)) w := by kernel_rfl
theorem ms_len (aP : Option Addr) (N cP : Nat) (aR : Option Addr) (M cR : Nat) (St : Int) (b1 n1 c1 b2 n2 c2 : Nat) : (msE aP N cP aR M cR St b1 n1 c1 b2 n2 c2).length = 5 := rfl
def NewMP (W0 : World) (O : Own) (W : World) (p : Pg) (e : Ending) (V : World) : Prop := ∃ bm bb bs O', e = .returned (.pointer (some ⟨bm, 0, none⟩)) ∧ W.Extends V ∧ (∀ k, k < W.heap.size → O' k = O k) ∧ MAt W0 O' V bm bb bs p (fun _ => []) (fun _ => [])
end Go.Proofs.Qxb6500788a
