import Derived.Test.Qxb6500788aKg
import Derived.StillTailTactics
import Derived.Deep.QuietTactic
import Derived.BigQuiet
import Derived.Deep.RegionHeld
import Derived.Deep.CutRange
import Derived.Laws.ResultCell
import Derived.Laws.Rows
import Derived.DeepKeys
import Derived.DataBytes
import Derived.Laws.StructEq
import Derived.Laws.AppendOwn
import Derived.Laws.MakeOwn
set_option linter.unusedSimpArgs false
set_option linter.unusedVariables false
namespace Go.Proofs.Qxb6500788a
open Go.RowKit Go.Blk
attribute [local go_sem ↓] execOp_load execOp_store execOp_alloc
attribute [local go_sem] Try.ld24 Try.st24 Try.ld25 Try.st25 Try.ld3 Try.st3 Try.ld30 Try.st30 Try.ld36 Try.st36 Try.ld4 Try.st4 Try.ld41 Try.st41 Try.ld50 Try.st50 Try.ld40 Try.st40 Try.ld42 Try.st42 Try.ld89 Try.st89 Try.ld91 Try.st91 Try.ld56 Try.st56 Try.ld97 Try.st97 Try.ld98 Try.st98 Try.ld101 Try.st101 Try.ld104 Try.st104 Try.ld57 Try.st57 Try.ld130 Try.st130 Try.ld2 Try.st2 Try.ld5 Try.st5 Try.ld9 Try.st9 Try.ld12 Try.st12 Try.ld21 Try.st21 Try.ld22 Try.st22 Try.ld29 Try.st29 Try.ld33 Try.st33 Try.ld59 Try.st59 Try.ld62 Try.st62 Try.ld69 Try.st69 Try.ld94 Try.st94 Try.ld96 Try.st96 Try.ld129 Try.st129 Try.ld158 Try.st158 Try.ld162 Try.st162 Try.ld47 Try.st47 Try.ld44 Try.st44 Try.ld137 Try.st137 Try.ld145 Try.st145 Try.ld43 Try.st43 Try.ld27 Try.st27 Try.ld38 Try.st38 Try.ld46 Try.st46 Try.ld49 Try.st49 Try.ld52 Try.st52 Try.ld54 Try.st54 Try.ld61 Try.st61 Try.ld80 Try.st80 Try.ld87 Try.st87 Try.ld93 Try.st93 Try.ld100 Try.st100 Try.ld103 Try.st103 Try.ld106 Try.st106 Try.ld109 Try.st109 Try.ld132 Try.st132 Try.ld147 Try.st147 Try.al47 Try.al44 Try.al137 Try.al145 Try.al43 Try.al27 Try.al38 Try.al46 Try.al49 Try.al52 Try.al54 Try.al61 Try.al80 Try.al87 Try.al93 Try.al100 Try.al103 Try.al106 Try.al109 Try.al132 Try.al147
attribute [local go_sem] GProgram.length_enc GProgram.ok_enc GProgram.all_get GProgram.all_set GProgram.preds_get GProgram.preds_set GProgram.rules_get GProgram.rules_set GProgram.strata_get GProgram.strata_set Answer.length_enc Answer.ok_enc Answer.all_get Answer.all_set Answer.code_get Answer.code_set Answer.n_get Answer.n_set Answer.rows_get Answer.rows_set Term.length_enc Term.ok_enc Term.all_get Term.all_set Term.var_get Term.var_set Term.n_get Term.n_set Atom.length_enc Atom.ok_enc Atom.all_get Atom.all_set Atom.pred_get Atom.pred_set Atom.args_get Atom.args_set GRule.length_enc GRule.ok_enc GRule.all_get GRule.all_set GRule.head_get GRule.head_set GRule.body_get GRule.body_set GRule.head_pred_get GRule.head_pred_set GRule.head_args_get GRule.head_args_set GOp.length_enc GOp.ok_enc GOp.all_get GOp.all_set GOp.kind_get GOp.kind_set GOp.pred_get GOp.pred_set GOp.t_get GOp.t_set GOp.n_get GOp.n_set GOp.base_get GOp.base_set GOp.rule_get GOp.rule_set GOp.rule_head_get GOp.rule_head_set GOp.rule_body_get GOp.rule_body_set GOp.rule_head_pred_get GOp.rule_head_pred_set GOp.rule_head_args_get GOp.rule_head_args_set PredInfo.length_enc PredInfo.ok_enc PredInfo.all_get PredInfo.all_set PredInfo.arity_get PredInfo.arity_set PredInfo.base_get PredInfo.base_set PredInfo.stratum_get PredInfo.stratum_set GStats.length_enc GStats.ok_enc GStats.all_get GStats.all_set GStats.rounds_get GStats.rounds_set GStats.fired_get GStats.fired_set GStats.emitted_get GStats.emitted_set GStats.fresh_get GStats.fresh_set Literal.length_enc Literal.ok_enc Literal.all_get Literal.all_set Literal.neg_get Literal.neg_set Literal.atom_get Literal.atom_set Literal.atom_pred_get Literal.atom_pred_set Literal.atom_args_get Literal.atom_args_set Engine.length_enc Engine.ok_enc Engine.all_get Engine.all_set Engine.prog_get Engine.prog_set Engine.st_get Engine.st_set Engine.levels_get Engine.levels_set Engine.running_get Engine.running_set Engine.stratum_get Engine.stratum_set Engine.round_get Engine.round_set Engine.saved_get Engine.saved_set Engine.stats_get Engine.stats_set Engine.prog_preds_get Engine.prog_preds_set Engine.prog_rules_get Engine.prog_rules_set Engine.prog_strata_get Engine.prog_strata_set Engine.stats_rounds_get Engine.stats_rounds_set Engine.stats_fired_get Engine.stats_fired_set Engine.stats_emitted_get Engine.stats_emitted_set Engine.stats_fresh_get Engine.stats_fresh_set Level.length_enc Level.ok_enc Level.all_get Level.all_set Level.heads_get Level.heads_set Level.jobs_get Level.jobs_set Plan.length_enc Plan.ok_enc Plan.all_get Plan.all_set Plan.rule_get Plan.rule_set Plan.delta_get Plan.delta_set Plan.src_get Plan.src_set Job.length_enc Job.ok_enc Job.all_get Job.all_set Job.full_get Job.full_set Job.deltas_get Job.deltas_set Job.full_rule_get Job.full_rule_set Job.full_delta_get Job.full_delta_set Job.full_src_get Job.full_src_set GState.length_enc GState.ok_enc GState.all_get GState.all_set GState.prog_get GState.prog_set GState.base_get GState.base_set GState.shown_get GState.shown_set GState.prog_preds_get GState.prog_preds_set GState.prog_rules_get GState.prog_rules_set GState.prog_strata_get GState.prog_strata_set Store.length_enc Store.ok_enc Store.all_get Store.all_set Store.arity_get Store.arity_set Store.rows_get Store.rows_set Env.length_enc Env.ok_enc Env.all_get Env.all_set Env.val_get Env.val_set Env.set_get Env.set_set
attribute [local go_sem] size_put size_ext blk_put free_put blk_alloc free_alloc blk_drew free_drew blk_ext free_ext lookOr_some putOr_some segAt_some cellAt_some storeIn_some put_put put_alloc_new length_arr ok_arr_u8 ok_arr_u32 ok_arr_u64 ok_arr_i64 ok_arr_sl cellsV_agg cellsV_int cellsV_bool cellsV_string cellsV_pointer cellsV_slice cellsV_sl ok_int ok_bool ok_string ok_pointer ok_slice ok_sl toList_arr seg_arr set_arr nth_splice nth_splice0 seg_splice seg_splice0 splice_splice splice_splice0 length_splice_if
attribute [local go_sem ↓] execOp_box
attribute [local go_sem] box_run nth_arr_u8 put_arr_u8 blk_drewN free_drewN put_drewN blk_raw free_raw
theorem lab67 {l : Lab} (h : isM l) : ¬ l = .a 6 0 := by
  intro e
  rcases h with ⟨m, e'⟩ | e' <;> (rw [e] at e'; injection e' with e' _; omega)
/-- A row of the shown relations replaced. -/
theorem MAt.setShown {W0 : World} {O : Own} {V : World} {bm bb bs : Nat} {p : Pg} {T U : Nat → List Tup} (h : MAt W0 O V bm bb bs p T U) {q : Nat} (hq : q < p.P.length) {a : Option Addr} {m c : Nat} {L : List Tup} (hw : Rw tpl 4 (core O V) a m L) : ∃ C, blk V bs = some C ∧ free V bs = true ∧ q < C.length ∧ Fr (fun l => l = .a 7 0) O V O (put V bs (splice C q [.slice a m c])) ∧ MAt W0 O (put V bs (splice C q [.slice a m c])) bm bb bs p T (fun x => if x = q then L else U x) := by
  obtain ⟨Cm, h1, h2, h3, h4⟩ := h.st
  obtain ⟨C, g1, g2, g3⟩ := h.shown
  have hf : Fr (fun l => l = .a 7 0) O V O (put V bs (splice C q [.slice a m c])) := (Fr.refl _ O V).put h.shl _
  have hn : ¬ (Lab.no = .a 7 0) := fun e => by cases e
  have hc := Sub.ext (core_fr hf hn)
  refine ⟨C, g1, h.shf, by omega, hf, ⟨Cm, hc _ _ h1, h2, h3, h4⟩, h.pg.sub hc, h.base.fr hf (fun m e => by injection e with e _; omega) hn, h.shl, by rw [free_put]; exact h.shf, splice C q [.slice a m c], by rw [blk_put, if_pos rfl, g1]; rfl, by rw [length_splice1 (by omega)]; exact g2, fun x hx => ?_⟩
  rw [splice_nth (by omega)]
  by_cases hxq : x = q
  · rw [if_pos hxq, if_pos hxq]
    exact ⟨a, m, c, rfl, hw.sub hc⟩
  · rw [if_neg hxq, if_neg hxq]
    obtain ⟨a2, m2, c2, k1, k2⟩ := g3 x hx
    exact ⟨a2, m2, c2, k1, k2.sub hc⟩
theorem shU_zero {p : Pg} {U T3 : Nat → List Tup} : shU p U T3 0 = U := by
  funext x
  unfold shU
  rw [if_neg (by omega)]
theorem shU_base {p : Pg} {U T3 : Nat → List Tup} {i : Nat} (hb : basP p i = true) : shU p U T3 (i + 1) = shU p U T3 i := by
  funext x
  unfold shU
  by_cases h : x < i ∧ basP p x = false
  · rw [if_pos h, if_pos ⟨by omega, h.2⟩]
  · rw [if_neg h, if_neg (fun h' => h ⟨by
      have := h'.1
      by_cases hxi : x = i
      · subst hxi; rw [hb] at h'; cases h'.2
      · omega, h'.2⟩)]
theorem shU_der {p : Pg} {U T3 : Nat → List Tup} {i : Nat} (hb : basP p i = false) : shU p U T3 (i + 1) = fun x => if x = i then T3 i else shU p U T3 i x := by
  funext x
  unfold shU
  by_cases hx : x = i
  · rw [if_pos hx, hx, if_pos ⟨by omega, hb⟩]
  · rw [if_neg hx]
    by_cases h : x < i ∧ basP p x = false
    · rw [if_pos h, if_pos ⟨by omega, h.2⟩]
    · rw [if_neg h, if_neg (fun h' => h ⟨by omega, h'.2⟩)]
def ruM (W0 : World) (O2 : Own) (W1 : World) (bm bb bs b3 b4 : Nat) (p : Pg) (T U T3 : Nat → List Tup) (pa : Option Addr) (i : Nat) (V : World) : Prop := Fr isM O2 W1 O2 V ∧ MAt W0 O2 V bm bb bs p T (shU p U T3 i) ∧ RelR (core O2 V) pa p.P.length T3
def ruMI (W0 : World) (O2 : Own) (W1 : World) (bm bb bs b3 b4 : Nat) (p : Pg) (T U T3 : Nat → List Tup) (pa : Option Addr) (pc : Nat) (f : Nat → Value) (V : World) : Prop := f 0 = .pointer (some ⟨bm, 0, none⟩) ∧ f 3 = .pointer (some ⟨b3, 0, none⟩) ∧ f 4 = .pointer (some ⟨b4, 0, none⟩) ∧ f 7 = .slice pa p.P.length pc ∧ ∃ i : Nat, i ≤ p.P.length ∧ f 8 = .int .i64 (i : Nat) ∧ Hid (ruM W0 O2 W1 bm bb bs b3 b4 p T U T3 pa i V)
attribute [local go_sem ↓] execOp_build execOp_bslice
attribute [local go_sem] bld0 bld1 bld2 bld3 bslice36
attribute [local go_sem] Answer.ok_enc
set_option maxRecDepth 100000 in
theorem frame265h (f : Nat → Value) : frameN 265 f = #[f 0, f 1, f 2, f 3, f 4, f 5, f 6, f 7, f 8, f 9, f 10, f 11, f 12, f 13, f 14, f 15, f 16, f 17, f 18, f 19, f 20, f 21, f 22, f 23, f 24, f 25, f 26, f 27, f 28, f 29, f 30, f 31, f 32, f 33, f 34, f 35, f 36, f 37, f 38, f 39, f 40, f 41, f 42, f 43, f 44, f 45, f 46, f 47, f 48, f 49, f 50, f 51, f 52, f 53, f 54, f 55, f 56, f 57, f 58, f 59, f 60, f 61, f 62, f 63, f 64, f 65, f 66, f 67, f 68, f 69, f 70, f 71, f 72, f 73, f 74, f 75, f 76, f 77, f 78, f 79, f 80, f 81, f 82, f 83, f 84, f 85, f 86, f 87, f 88, f 89, f 90, f 91, f 92, f 93, f 94, f 95, f 96, f 97, f 98, f 99, f 100, f 101, f 102, f 103, f 104, f 105, f 106, f 107, f 108, f 109, f 110, f 111, f 112, f 113, f 114, f 115, f 116, f 117, f 118, f 119, f 120, f 121, f 122, f 123, f 124, f 125, f 126, f 127, f 128, f 129, f 130, f 131, f 132, f 133, f 134, f 135, f 136, f 137, f 138, f 139, f 140, f 141, f 142, f 143, f 144, f 145, f 146, f 147, f 148, f 149, f 150, f 151, f 152, f 153, f 154, f 155, f 156, f 157, f 158, f 159, f 160, f 161, f 162, f 163, f 164, f 165, f 166, f 167, f 168, f 169, f 170, f 171, f 172, f 173, f 174, f 175, f 176, f 177, f 178, f 179, f 180, f 181, f 182, f 183, f 184, f 185, f 186, f 187, f 188, f 189, f 190, f 191, f 192, f 193, f 194, f 195, f 196, f 197, f 198, f 199, f 200, f 201, f 202, f 203, f 204, f 205, f 206, f 207, f 208, f 209, f 210, f 211, f 212, f 213, f 214, f 215, f 216, f 217, f 218, f 219, f 220, f 221, f 222, f 223, f 224, f 225, f 226, f 227, f 228, f 229, f 230, f 231, f 232, f 233, f 234, f 235, f 236, f 237, f 238, f 239, f 240, f 241, f 242, f 243, f 244, f 245, f 246, f 247, f 248, f 249, f 250, f 251, f 252, f 253, f 254, f 255, f 256, f 257, f 258, f 259, f 260, f 261, f 262, f 263, f 264] := by kernel_rfl
set_option maxRecDepth 40000 in
set_option maxHeartbeats 4000000 in
theorem step_run (W0 : World) (O : Own) (W : World) (bm bb bs : Nat) (p : Pg) (T U : Nat → List Tup) (hM : MAt W0 O W bm bb bs p T U) (hok : PgOk p) (hT : RelI p T) (hU : RelI p U) (op : GOp) (hk : op.kind = 4) : Calls Try.prog 15 #[.pointer (some ⟨bm, 0, none⟩), .agg (GOp.enc op).toArray] W (StepPost W0 O W bm bb bs p T U op) := by
  obtain ⟨Q, hQ⟩ : ∃ Q, Q = StepPost W0 O W bm bb bs p T U op := ⟨_, rfl⟩
  rw [← hQ]
  have HQ := hid_of hQ
  have HOK := hid_of hok
  have HT := hid_of hT
  have HU := hid_of hU
  have h64 := hok.nP
  have HKD := hid_of hk
  have k0 : nth (GOp.enc op) 0 = some (.int .i64 op.kind) := GOp.kind_get op
  have k1 : nth (GOp.enc op) 1 = some (.int .i64 op.pred) := GOp.pred_get op
  have k2 : seg (GOp.enc op) 2 4 = arr i64v op.t := GOp.t_get op
  have kl : (GOp.enc op).length = 18 := GOp.length_enc op
  obtain ⟨OE, hOE⟩ : ∃ OE, OE = GOp.enc op := ⟨_, rfl⟩
  rw [← hOE] at k0 k1 k2 kl ⊢
  have l0 : 0 < OE.length := by omega
  have l1 : 1 < OE.length := by omega
  have l2 : 2 + 4 ≤ OE.length := by omega
  have ol18 : OE.length = 18 := kl
  rw [hk] at k0
  clear hOE hQ hk hok hT hU kl
  go_enter Try.func15, Try.ntmps15
  go_upto_region 1 with fail
  refine wp_world (fun V => blk V W.heap.size = some OE ∧ blk V (W.heap.size + 1) = some (Answer.enc (ans 0 0)) ∧ free V (W.heap.size + 1) = true ∧ W.Extends V ∧ V.heap.size = W.heap.size + 2) ⟨?_, ?_, ?_, ?_, ?_⟩ ?_
  · rw [blk_alloc, if_neg (by rw [World.size_alloc]; omega), blk_alloc, if_pos rfl]
  · rw [blk_alloc, if_pos (by rw [World.size_alloc])]; try rfl
  · rw [free_alloc, if_pos (by rw [World.size_alloc])]
  · exact extends_alloc (extends_alloc (ext_Ext (Ext.refl _)) _) _
  · rw [World.size_alloc, World.size_alloc]
  rintro W1 ⟨hb3, hb4, hf4, hx1, hsz⟩
  try simp only [World.size_alloc]
  obtain ⟨O1, hO1⟩ : ∃ O1, O1 = lab O W.heap.size (.a 6 0) := ⟨_, rfl⟩
  have hM1 : MAt W0 O1 W1 bm bb bs p T U := by
    rw [hO1]
    exact hM.fr (L := fun _ => False) ⟨hx1.os, hx1.tape, hx1.output, hx1.size, fun k hk => lab_lt hk, fun k hk _ => hx1.block k hk⟩ (fun _ _ h => h) (fun h => h)
  have HF : Hid (∀ (V : World) (O' : Own) (T' U' : Nat → List Tup) (A : Answer) (ts : List Tup), Fr isM O1 W1 O' V → MAt W0 O' V bm bb bs p T' U' → RwS O' V A.rows.a A.rows.len ts → MR p T U op T' U' A.code A.n ts → Q (.returned (.agg A.enc.toArray)) (put V (W.heap.size + 1) A.enc)) := by
    intro V O' T' U' A ts h1 h2 h3 h4
    rw [HQ.out]
    exact step_fin hx1 hO1 (by omega) (by omega) h1 h2 h3 h4
  obtain ⟨b4, e4⟩ : ∃ b4, b4 = W.heap.size + 1 := ⟨_, rfl⟩
  rw [← e4] at hb4 hf4 HF ⊢
  obtain ⟨b3, e3⟩ : ∃ b3, b3 = W.heap.size := ⟨_, rfl⟩
  rw [← e3] at hb3 ⊢
  have n34 : ¬ b3 = b4 := by omega
  have hl4 : O1 b4 = .a 6 0 := by rw [hO1, e4]; exact lab_ge (by omega)
  have hl3 : O1 b3 = .a 6 0 := by rw [hO1, e3]; exact lab_ge (Nat.le_refl _)
  have HL4 := hid_of hl4
  have HL3 := hid_of hl3
  have HM1 := hid_of hM1
  have HSZ : Hid (b3 < W1.heap.size ∧ b4 < W1.heap.size) := by
    show _ ∧ _
    omega
  have HX1 := hid_of hx1
  have al4 := Answer.length_enc (ans 0 0)
  clear e3 e4 hO1 hx1 hM1 hM hsz hl4 hl3
  obtain ⟨aP0, cP0, Cm, e1, e2, -, e4, e5⟩ := HM1.out.cell
  have x3 : 3 < Cm.length := by omega
  have x4 : 4 < Cm.length := by omega
  have hdw : W1.Extends W1.drew := extends_drew (ext_Ext (Ext.refl _))
  have hpf := perfect_any W1.drew bm p (HM1.out.ext hdw).pgv HOK.out (some ⟨bb, 0, none⟩) p.P.length T (HM1.out.ext hdw).base.relR HT.out
  have HPF := hid_of hpf
  clear hdw hpf
  go_upto_region 32 with fail
  refine wp_region_held_drew (S := fun W' => blk W' bm = some Cm) (by kernel_rfl) e1 (fun hHeld => ?_)
  refine wpAnyH_take (i := 0) (oi := ⟨_, _, _, _, _, _⟩) (v := ?_) rfl (by kernel_rfl) (by kernel_rfl) (by kernel_rfl) (fun _ _ _ h => h) (Or.inl ⟨by rfl, ?_⟩) (by assumption) ?_
  rotate_left 1
  · intro W' hSw
    go_simp
    try with_reducible rfl
  try simp only [Act.put, List.setIfInBounds_toArray, List.set_cons_zero, List.set_cons_succ]
  refine wpAnyH_take (i := 1) (oi := ⟨_, _, _, _, _, _⟩) (v := ?_) rfl (by kernel_rfl) (by kernel_rfl) (by kernel_rfl) (fun _ _ _ h => h) (Or.inl ⟨by rfl, ?_⟩) (by assumption) ?_
  rotate_left 1
  · intro W' hSw
    go_simp
    try with_reducible rfl
  try simp only [Act.put, List.setIfInBounds_toArray, List.set_cons_zero, List.set_cons_succ]
  refine wpAnyH_take (i := 2) (oi := ⟨_, _, _, _, _, _⟩) (v := ?_) rfl (by kernel_rfl) (by kernel_rfl) (by kernel_rfl) (fun _ _ _ h => h) (Or.inl ⟨by rfl, ?_⟩) (by assumption) ?_
  rotate_left 1
  · intro W' hSw
    go_simp
    try with_reducible rfl
  try simp only [Act.put, List.setIfInBounds_toArray, List.set_cons_zero, List.set_cons_succ]
  refine wpAnyH_take (i := 3) (oi := ⟨_, _, _, _, _, _⟩) (v := ?_) rfl (by kernel_rfl) (by kernel_rfl) (by kernel_rfl) (fun _ _ _ h => h) (Or.inl ⟨by rfl, ?_⟩) (by assumption) ?_
  rotate_left 1
  · intro W' hSw
    go_simp
    try with_reducible rfl
  try simp only [Act.put, List.setIfInBounds_toArray, List.set_cons_zero, List.set_cons_succ]
  refine wpAnyH_take (i := 4) (oi := ⟨_, _, _, _, _, _⟩) (v := ?_) rfl (by kernel_rfl) (by kernel_rfl) (by kernel_rfl) (fun _ _ _ h => h) (Or.inl ⟨by rfl, ?_⟩) (by assumption) ?_
  rotate_left 1
  · intro W' hSw
    go_simp
    try with_reducible rfl
  try simp only [Act.put, List.setIfInBounds_toArray, List.set_cons_zero, List.set_cons_succ]
  refine wpAnyH_take (i := 5) (oi := ⟨_, _, _, _, _, _⟩) (v := ?_) rfl (by kernel_rfl) (by kernel_rfl) (by kernel_rfl) (fun _ _ _ h => h) (Or.inl ⟨by rfl, ?_⟩) (by assumption) ?_
  rotate_left 1
  · intro W' hSw
    go_simp
    try with_reducible rfl
  try simp only [Act.put, List.setIfInBounds_toArray, List.set_cons_zero, List.set_cons_succ]
  refine wpAnyH_take (i := 6) (oi := ⟨_, _, _, _, _, _⟩) (v := ?_) rfl (by kernel_rfl) (by kernel_rfl) (by kernel_rfl) (fun _ _ _ h => h) (Or.inl ⟨by rfl, ?_⟩) (by assumption) ?_
  rotate_left 1
  · intro W' hSw
    go_simp
    try with_reducible rfl
  try simp only [Act.put, List.setIfInBounds_toArray, List.set_cons_zero, List.set_cons_succ]
  refine wpAnyH_ready (rs := [7]) (by kernel_rfl) (by simp) ?_
  refine AllReadyH.cons (o := ⟨_, _, _, _, _, _⟩) rfl (fun K' hK => ?_) AllReadyH.nil
  go_simp
  refine HPF.out.mono ?_
  rintro en V2 ⟨pa, pc, T3, rfl, hx2, hrn, hri, hpt⟩
  have hxx : W1.Extends V2 := (extends_drew (ext_Ext (Ext.refl _))).trans hx2
  have HX2 := hid_of hxx
  have HRN : Hid (RelR (newc W1.heap.size V2) pa p.P.length T3) := hrn
  have HRI := hid_of hri
  have HPT := hid_of hpt
  have e1V : blk V2 bm = some Cm := (hxx.blk (blk_lt e1)).trans e1
  have h4V : blk V2 b4 = some (Answer.enc (ans 0 0)) := (hxx.blk HSZ.out.2).trans hb4
  have f4V : free V2 b4 = true := (free_of_heap (hxx.block b4 HSZ.out.2)).trans hf4
  clear HPF hx2 hrn hri hpt hxx
  dsimp only
  refine hK.out _ _ e1V (fun hHeld => ?_)
  clear hK K'
  try simp only [Act.put, List.setIfInBounds_toArray, List.set_cons_zero, List.set_cons_succ]
  refine wpAnyH_take (i := 8) (oi := ⟨_, _, _, _, _, _⟩) (v := ?_) rfl (by kernel_rfl) (by kernel_rfl) (by kernel_rfl) (fun _ _ _ h => h) (Or.inl ⟨by rfl, ?_⟩) (by assumption) ?_
  rotate_left 1
  · intro W' hSw
    go_simp
    try with_reducible rfl
  try simp only [Act.put, List.setIfInBounds_toArray, List.set_cons_zero, List.set_cons_succ]
  refine wpAnyH_done (by kernel_rfl) ?_ _
  clear hHeld
  obtain ⟨O2, hO2⟩ : ∃ O2, O2 = lab O1 W1.heap.size .no := ⟨_, rfl⟩
  have hMA2 : MAt W0 O2 V2 bm bb bs p T U := by rw [hO2]; exact HM1.out.new HX2.out
  have hF2 : Fr isM O1 W1 O2 V2 := by rw [hO2]; exact Fr.grow HX2.out
  have hRC2 : RelR (core O2 V2) pa p.P.length T3 := by rw [hO2]; exact HRN.out.sub (newc_core O1)
  have HMA2 := hid_of hMA2
  have HF2 := hid_of hF2
  have HRC2 := hid_of hRC2
  have hov := over_any V2 pa p.P.length pc T3 (HRN.out.sub (newc_sub _ _)) (by omega) (fun q hq => outok_len (HRI.out q hq))
  have HOV := hid_of hov
  have ho4 : O2 b4 = .a 6 0 := by rw [hO2, lab_lt HSZ.out.2]; exact HL4.out
  have HO4 := hid_of ho4
  clear hMA2 hF2 hRC2 hov hO2 HRN ho4
  go_wp2_with fail
  refine HOV.out.mono ?_
  rintro e V3 ⟨b, rfl, hb, hx3⟩
  have HMA3 : Hid (MAt W0 O2 V3 bm bb bs p T U) := HMA2.out.ext hx3
  have HF3 : Hid (Fr isM O1 W1 O2 V3) := HF2.out.trans (Fr.of_extends hx3)
  have HRC3 : Hid (RelR (core O2 V3) pa p.P.length T3) := HRC2.out.ext (core_ext hx3)
  have hb4V : blk V3 b4 = some (Answer.enc (ans 0 0)) := (hx3.blk (blk_lt h4V)).trans h4V
  have hf4V : free V3 b4 = true := (free_of_heap (hx3.block b4 (blk_lt h4V))).trans f4V
  have HBB := hid_of hb
  clear HOV hb hx3 HMA2 HF2 HRC2 h4V f4V
  dsimp only
  cases b with
  | true =>
    have HP : Hid (Q (.returned (.agg (Answer.enc (ans 3 0)).toArray)) (put V3 b4 (Answer.enc (ans 3 0)))) := HF.out V3 O2 T U (ans 3 0) [] HF3.out HMA3.out (RwS.nil _ _) (.over HKD.out HPT.out (HBB.out.1 rfl))
    have hb4x := hb4V
    clear HF HMA3 HF3 HRC3
    go_wp2_with fail
    refine ret_cell (C := Answer.enc (ans 3 0)) rfl rfl ?_ (by kernel_rfl) (by rw [Answer.length_enc]; kernel_rfl) rfl HP.out
    first | (rw [blk_put, if_pos rfl, hb4x]; rfl) | (simp only [blk_put, if_true, hb4x, Option.map_some]; try rfl)
  | false =>
    have HNO : Hid (¬ OvrT p.P.length T3) := fun ho => by have := HBB.out.2 ho; cases this
    have HI0 : Hid (ruM W0 O2 V3 bm bb bs b3 b4 p T U T3 pa 0 V3) := ⟨Fr.refl _ _ _, by rw [shU_zero]; exact HMA3.out, HRC3.out⟩
    clear HMA3 HRC3 HBB
    go_upto_region 36 with fail
    refine wp_loop_f 265 (ruMI W0 O2 V3 bm bb bs b3 b4 p T U T3 pa pc) (fun f _ => p.P.length - (intOf (f 8)).toNat) rfl ⟨rfl, rfl, rfl, rfl, 0, by omega, rfl, HI0⟩ ?_
    clear HI0
    intro F V hrel
    obtain ⟨f0, f3, f4, f7, i, hi, f8, HI⟩ := hrel
    have H8 := hid_of f8
    rw [frame265h, f0, f3, f4, f7, f8]
    clear f0 f3 f4 f7 f8
    by_cases hin : i < p.P.length
    · have hin' : (i : Int) < (p.P.length : Int) := by omega
      obtain ⟨cP, Cm', bP, CP, d1, d2, d3, d4, d5, d6, d7, d8⟩ := HI.out.2.1.pred hin
      have i0 : (0 : Int) ≤ (i : Int) := by omega
      have i2 : ((i : Int)).toNat = i := by omega
      have y1 : i * 3 + 1 < CP.length := by omega
      have y0 : 0 < Cm'.length := by omega
      have y4 : 4 < Cm'.length := by omega
      cases hb : basP p i with
      | true =>
        rw [hb] at d8
        have HI' : Hid (ruM W0 O2 V3 bm bb bs b3 b4 p T U T3 pa (i + 1) V) := ⟨HI.out.1, by rw [shU_base hb]; exact HI.out.2.1, HI.out.2.2⟩
        clear HI
        go_wp2_with fail
        refine ⟨rfl, rfl, ⟨rfl, rfl, rfl, rfl, i + 1, by omega, ?_, HI'⟩, ?_⟩
        · show Value.int .i64 _ = _
          go_num
        · show p.P.length - (intOf (Value.int .i64 _)).toNat < p.P.length - (intOf (F 8)).toNat
          rw [H8.out]
          simp [intOf]; omega
      | false =>
        rw [hb] at d8
        have hfd : Fr isM O2 V O2 V.drew := Fr.of_extends (extends_drew (ext_Ext (Ext.refl _)))
        have hmd := HI.out.2.1.ext (extends_drew (ext_Ext (Ext.refl V)))
        have hrd := HI.out.2.2.ext (core_ext (O := O2) (extends_drew (ext_Ext (Ext.refl V))))
        obtain ⟨br, Cr, ta, tn, tc, hpa, g1, g2, -, g3, g4⟩ := rel_at hrd hin
        obtain ⟨C2, s1, s2, s3, s4, s5⟩ := hmd.setShown hin g4 (c := tc)
        have g1' : blk V br = some Cr := (Sub.core O2 V.drew) _ _ g1
        have hbrO : O2 br = .no := (core_blk g1).2
        have nbr : ¬ br = bs := fun e => by
          have := hmd.shl
          rw [← e, hbrO] at this; cases this
        have hbmO : O2 bm = .no := by
          obtain ⟨Cm'', u1, -⟩ := hmd.st
          exact (core_blk u1).2
        have nbm : ¬ bm = bs := fun e => by
          have := hmd.shl
          rw [← e, hbmO] at this; cases this
        have s1' : blk V bs = some C2 := s1
        have s2' : free V bs = true := s2
        have s3' : i + 1 ≤ C2.length := by omega
        have HI' : Hid (ruM W0 O2 V3 bm bb bs b3 b4 p T U T3 pa (i + 1) (put V.drew bs (splice C2 i [.slice ta tn tc]))) := ⟨(HI.out.1.trans hfd).trans (s4.mono (fun l h => .inr h)), by rw [shU_der hb]; exact s5, hrd.ext (core_fr s4 (fun e => by cases e))⟩
        have hfin : ∀ X, blk (put V.drew bs X) bm = some Cm' ∧ blk (put V.drew bs X) br = some Cr := fun X => ⟨by rw [blk_put, if_neg nbm]; exact d1, by rw [blk_put, if_neg nbr]; exact g1'⟩
        subst hpa
        clear HI hfd hmd hrd g1 g4 s4 s5 hbrO hbmO nbr nbm s1 s2
        go_upto_region 39 with fail
        refine wp_region_held_drew (S := fun W' => blk W' bm = some Cm' ∧ blk W' br = some Cr) (by kernel_rfl) ⟨d1, g1'⟩ (fun hHeld => ?_)
        refine wpAnyH_take (i := 0) (oi := ⟨_, _, _, _, _, _⟩) (v := ?_) rfl (by kernel_rfl) (by kernel_rfl) (by kernel_rfl) (fun _ _ _ h => h) (Or.inl ⟨by rfl, ?_⟩) (by assumption) ?_
        rotate_left 1
        · intro W' hSw
          obtain ⟨hS1, hS2⟩ := hSw
          go_simp
          try with_reducible rfl
        try simp only [Act.put, List.setIfInBounds_toArray, List.set_cons_zero, List.set_cons_succ]
        refine wpAnyH_take (i := 1) (oi := ⟨_, _, _, _, _, _⟩) (v := ?_) rfl (by kernel_rfl) (by kernel_rfl) (by kernel_rfl) (fun _ _ _ h => h) (Or.inl ⟨by rfl, ?_⟩) (by assumption) ?_
        rotate_left 1
        · intro W' hSw
          obtain ⟨hS1, hS2⟩ := hSw
          go_simp
          try with_reducible rfl
        try simp only [Act.put, List.setIfInBounds_toArray, List.set_cons_zero, List.set_cons_succ]
        refine wpAnyH_take (i := 2) (oi := ⟨_, _, _, _, _, _⟩) (v := ?_) rfl (by kernel_rfl) (by kernel_rfl) (by kernel_rfl) (fun _ _ _ h => h) (Or.inl ⟨by rfl, ?_⟩) (by assumption) ?_
        rotate_left 1
        · intro W' hSw
          obtain ⟨hS1, hS2⟩ := hSw
          go_simp
          try with_reducible rfl
        try simp only [Act.put, List.setIfInBounds_toArray, List.set_cons_zero, List.set_cons_succ]
        refine wpAnyH_take (i := 3) (oi := ⟨_, _, _, _, _, _⟩) (v := ?_) rfl (by kernel_rfl) (by kernel_rfl) (by kernel_rfl) (fun _ _ _ h => h) (Or.inl ⟨by rfl, ?_⟩) (by assumption) ?_
        rotate_left 1
        · intro W' hSw
          obtain ⟨hS1, hS2⟩ := hSw
          go_simp
          try with_reducible rfl
        try simp only [Act.put, List.setIfInBounds_toArray, List.set_cons_zero, List.set_cons_succ]
        refine wpAnyH_take (i := 4) (oi := ⟨_, _, _, _, _, _⟩) (v := ?_) rfl (by kernel_rfl) (by kernel_rfl) (by kernel_rfl) (fun _ _ _ h => h) (Or.inl ⟨by rfl, ?_⟩) (by assumption) ?_
        rotate_left 1
        · intro W' hSw
          obtain ⟨hS1, hS2⟩ := hSw
          go_simp
          try with_reducible rfl
        try simp only [Act.put, List.setIfInBounds_toArray, List.set_cons_zero, List.set_cons_succ]
        refine wpAnyH_take (i := 5) (oi := ⟨_, _, _, _, _, _⟩) (v := ?_) rfl (by kernel_rfl) (by kernel_rfl) (by kernel_rfl) (fun _ _ _ h => h) (Or.inl ⟨by rfl, ?_⟩) (by assumption) ?_
        rotate_left 1
        · intro W' hSw
          obtain ⟨hS1, hS2⟩ := hSw
          go_simp
          try with_reducible rfl
        try simp only [Act.put, List.setIfInBounds_toArray, List.set_cons_zero, List.set_cons_succ]
        refine wpAnyH_take (i := 6) (oi := ⟨_, _, _, _, _, _⟩) (v := ?_) rfl (by kernel_rfl) (by kernel_rfl) (by kernel_rfl) (fun _ _ _ h => h) (Or.inl ⟨by rfl, ?_⟩) (by assumption) ?_
        rotate_left 1
        · intro W' hSw
          obtain ⟨hS1, hS2⟩ := hSw
          go_simp
          try with_reducible rfl
        try simp only [Act.put, List.setIfInBounds_toArray, List.set_cons_zero, List.set_cons_succ]
        refine wpAnyH_take (i := 7) (oi := ⟨_, _, _, _, _, _⟩) (v := ?_) rfl (by kernel_rfl) (by kernel_rfl) (by kernel_rfl) (fun _ _ _ h => h) (Or.inl ⟨by rfl, ?_⟩) (by assumption) ?_
        rotate_left 1
        · intro W' hSw
          obtain ⟨hS1, hS2⟩ := hSw
          go_simp
          try with_reducible rfl
        try simp only [Act.put, List.setIfInBounds_toArray, List.set_cons_zero, List.set_cons_succ]
        refine wpAnyH_take (i := 8) (oi := ⟨_, _, _, _, _, _⟩) (v := ?_) rfl (by kernel_rfl) (by kernel_rfl) (by kernel_rfl) (fun _ _ _ h => h) (Or.inl ⟨by rfl, ?_⟩) (by assumption) ?_
        rotate_left 1
        · intro W' hSw
          obtain ⟨hS1, hS2⟩ := hSw
          go_simp
          try with_reducible rfl
        try simp only [Act.put, List.setIfInBounds_toArray, List.set_cons_zero, List.set_cons_succ]
        refine wpAnyH_take (i := 9) (oi := ⟨_, _, _, _, _, _⟩) (v := ?_) rfl (by kernel_rfl) (by kernel_rfl) (by kernel_rfl) (fun _ _ _ h => h) (Or.inl ⟨by rfl, ?_⟩) (by assumption) ?_
        rotate_left 1
        · intro W' hSw
          obtain ⟨hS1, hS2⟩ := hSw
          go_simp
          try with_reducible rfl
        try simp only [Act.put, List.setIfInBounds_toArray, List.set_cons_zero, List.set_cons_succ]
        refine wpAnyH_ready (rs := [10]) (by kernel_rfl) (by simp) ?_
        refine AllReadyH.cons (o := ⟨_, _, _, _, _, _⟩) rfl (fun K' hK => ?_) AllReadyH.nil
        go_simp
        refine hK.out _ _ (hfin _) (fun hHeld => ?_)
        clear hK K'
        try simp only [Act.put, List.setIfInBounds_toArray, List.set_cons_zero, List.set_cons_succ]
        refine wpAnyH_done (by kernel_rfl) ?_ _
        clear hHeld
        go_wp2_with fail
        refine ⟨rfl, rfl, ⟨rfl, rfl, rfl, rfl, i + 1, by omega, ?_, HI'⟩, ?_⟩
        · show Value.int .i64 _ = _
          go_num
        · show p.P.length - (intOf (Value.int .i64 _)).toNat < p.P.length - (intOf (F 8)).toNat
          rw [H8.out]
          simp [intOf]; omega
    · obtain rfl : i = p.P.length := by omega
      have hin' : ¬ ((p.P.length : Int) < (p.P.length : Int)) := by omega
      have hbq : blk V b4 = some (Answer.enc (ans 0 0)) := HI.out.1.blk hb4V (by rw [HO4.out]; exact fun h => lab67 h rfl)
      have hfq : free V b4 = true := HI.out.1.free hb4V hf4V (by rw [HO4.out]; exact fun h => lab67 h rfl)
      have HP : Hid (Q (.returned (.agg (Answer.enc (ans 0 0)).toArray)) (put V b4 (Answer.enc (ans 0 0)))) := HF.out V O2 T _ (ans 0 0) [] (HF3.out.trans HI.out.1) HI.out.2.1 (RwS.nil _ _) (.run HKD.out HPT.out HRI.out HNO.out)
      have hb4x := hbq
      clear HF HI HF3 hb4V hf4V
      go_wp2_with fail
      refine ret_cell (C := Answer.enc (ans 0 0)) rfl rfl ?_ (by kernel_rfl) (by rw [Answer.length_enc]; kernel_rfl) rfl HP.out
      first | (rw [blk_put, if_pos rfl, hb4x]; rfl) | (simp only [blk_put, if_true, hb4x, Option.map_some]; try rfl)
end Go.Proofs.Qxb6500788a
