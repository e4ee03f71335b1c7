import Derived.Test.Qxb6500788aPo1
import Derived.StillTailTactics
import Derived.Deep.QuietTactic
import Derived.BigQuiet
import Derived.Deep.RegionHeld
import Derived.Deep.CutRange
import Derived.Laws.ResultCell
import Derived.Laws.Rows
import Derived.DeepKeys
import Derived.DataBytes
import Derived.Laws.StructEq
import Derived.Laws.AppendOwn
set_option linter.unusedSimpArgs false
set_option linter.unusedVariables false
namespace Go.Proofs.Qxb6500788a
open Go.RowKit Go.Blk
attribute [local go_sem ↓] execOp_load execOp_store execOp_alloc
attribute [local go_sem] Try.ld24 Try.st24 Try.ld25 Try.st25 Try.ld3 Try.st3 Try.ld30 Try.st30 Try.ld36 Try.st36 Try.ld4 Try.st4 Try.ld41 Try.st41 Try.ld50 Try.st50 Try.ld40 Try.st40 Try.ld42 Try.st42 Try.ld89 Try.st89 Try.ld91 Try.st91 Try.ld56 Try.st56 Try.ld97 Try.st97 Try.ld98 Try.st98 Try.ld101 Try.st101 Try.ld104 Try.st104 Try.ld57 Try.st57 Try.ld130 Try.st130 Try.ld2 Try.st2 Try.ld5 Try.st5 Try.ld9 Try.st9 Try.ld12 Try.st12 Try.ld21 Try.st21 Try.ld22 Try.st22 Try.ld29 Try.st29 Try.ld33 Try.st33 Try.ld59 Try.st59 Try.ld62 Try.st62 Try.ld69 Try.st69 Try.ld94 Try.st94 Try.ld96 Try.st96 Try.ld129 Try.st129 Try.ld158 Try.st158 Try.ld162 Try.st162 Try.ld47 Try.st47 Try.ld44 Try.st44 Try.ld137 Try.st137 Try.ld145 Try.st145 Try.ld43 Try.st43 Try.ld27 Try.st27 Try.ld38 Try.st38 Try.ld46 Try.st46 Try.ld49 Try.st49 Try.ld52 Try.st52 Try.ld54 Try.st54 Try.ld61 Try.st61 Try.ld80 Try.st80 Try.ld87 Try.st87 Try.ld93 Try.st93 Try.ld100 Try.st100 Try.ld103 Try.st103 Try.ld106 Try.st106 Try.ld109 Try.st109 Try.ld132 Try.st132 Try.ld147 Try.st147 Try.al47 Try.al44 Try.al137 Try.al145 Try.al43 Try.al27 Try.al38 Try.al46 Try.al49 Try.al52 Try.al54 Try.al61 Try.al80 Try.al87 Try.al93 Try.al100 Try.al103 Try.al106 Try.al109 Try.al132 Try.al147
attribute [local go_sem] GProgram.length_enc GProgram.ok_enc GProgram.all_get GProgram.all_set GProgram.preds_get GProgram.preds_set GProgram.rules_get GProgram.rules_set GProgram.strata_get GProgram.strata_set Answer.length_enc Answer.ok_enc Answer.all_get Answer.all_set Answer.code_get Answer.code_set Answer.n_get Answer.n_set Answer.rows_get Answer.rows_set Term.length_enc Term.ok_enc Term.all_get Term.all_set Term.var_get Term.var_set Term.n_get Term.n_set Atom.length_enc Atom.ok_enc Atom.all_get Atom.all_set Atom.pred_get Atom.pred_set Atom.args_get Atom.args_set GRule.length_enc GRule.ok_enc GRule.all_get GRule.all_set GRule.head_get GRule.head_set GRule.body_get GRule.body_set GRule.head_pred_get GRule.head_pred_set GRule.head_args_get GRule.head_args_set GOp.length_enc GOp.ok_enc GOp.all_get GOp.all_set GOp.kind_get GOp.kind_set GOp.pred_get GOp.pred_set GOp.t_get GOp.t_set GOp.n_get GOp.n_set GOp.base_get GOp.base_set GOp.rule_get GOp.rule_set GOp.rule_head_get GOp.rule_head_set GOp.rule_body_get GOp.rule_body_set GOp.rule_head_pred_get GOp.rule_head_pred_set GOp.rule_head_args_get GOp.rule_head_args_set PredInfo.length_enc PredInfo.ok_enc PredInfo.all_get PredInfo.all_set PredInfo.arity_get PredInfo.arity_set PredInfo.base_get PredInfo.base_set PredInfo.stratum_get PredInfo.stratum_set GStats.length_enc GStats.ok_enc GStats.all_get GStats.all_set GStats.rounds_get GStats.rounds_set GStats.fired_get GStats.fired_set GStats.emitted_get GStats.emitted_set GStats.fresh_get GStats.fresh_set Literal.length_enc Literal.ok_enc Literal.all_get Literal.all_set Literal.neg_get Literal.neg_set Literal.atom_get Literal.atom_set Literal.atom_pred_get Literal.atom_pred_set Literal.atom_args_get Literal.atom_args_set Engine.length_enc Engine.ok_enc Engine.all_get Engine.all_set Engine.prog_get Engine.prog_set Engine.st_get Engine.st_set Engine.levels_get Engine.levels_set Engine.running_get Engine.running_set Engine.stratum_get Engine.stratum_set Engine.round_get Engine.round_set Engine.saved_get Engine.saved_set Engine.stats_get Engine.stats_set Engine.prog_preds_get Engine.prog_preds_set Engine.prog_rules_get Engine.prog_rules_set Engine.prog_strata_get Engine.prog_strata_set Engine.stats_rounds_get Engine.stats_rounds_set Engine.stats_fired_get Engine.stats_fired_set Engine.stats_emitted_get Engine.stats_emitted_set Engine.stats_fresh_get Engine.stats_fresh_set Level.length_enc Level.ok_enc Level.all_get Level.all_set Level.heads_get Level.heads_set Level.jobs_get Level.jobs_set Plan.length_enc Plan.ok_enc Plan.all_get Plan.all_set Plan.rule_get Plan.rule_set Plan.delta_get Plan.delta_set Plan.src_get Plan.src_set Job.length_enc Job.ok_enc Job.all_get Job.all_set Job.full_get Job.full_set Job.deltas_get Job.deltas_set Job.full_rule_get Job.full_rule_set Job.full_delta_get Job.full_delta_set Job.full_src_get Job.full_src_set GState.length_enc GState.ok_enc GState.all_get GState.all_set GState.prog_get GState.prog_set GState.base_get GState.base_set GState.shown_get GState.shown_set GState.prog_preds_get GState.prog_preds_set GState.prog_rules_get GState.prog_rules_set GState.prog_strata_get GState.prog_strata_set Store.length_enc Store.ok_enc Store.all_get Store.all_set Store.arity_get Store.arity_set Store.rows_get Store.rows_set Env.length_enc Env.ok_enc Env.all_get Env.all_set Env.val_get Env.val_set Env.set_get Env.set_set
attribute [local go_sem] size_put size_ext blk_put free_put blk_alloc free_alloc blk_drew free_drew blk_ext free_ext lookOr_some putOr_some segAt_some cellAt_some storeIn_some put_put put_alloc_new length_arr ok_arr_u8 ok_arr_u32 ok_arr_u64 ok_arr_i64 ok_arr_sl cellsV_agg cellsV_int cellsV_bool cellsV_string cellsV_pointer cellsV_slice cellsV_sl ok_int ok_bool ok_string ok_pointer ok_slice ok_sl toList_arr seg_arr set_arr nth_splice nth_splice0 seg_splice seg_splice0 splice_splice splice_splice0 length_splice_if
attribute [local go_sem ↓] execOp_box
attribute [local go_sem] box_run nth_arr_u8 put_arr_u8 blk_drewN free_drewN put_drewN blk_raw free_raw
set_option maxRecDepth 100000 in
theorem frame90 (f : Nat → Value) : frameN 90 f = #[f 0, f 1, f 2, f 3, f 4, f 5, f 6, f 7, f 8, f 9, f 10, f 11, f 12, f 13, f 14, f 15, f 16, f 17, f 18, f 19, f 20, f 21, f 22, f 23, f 24, f 25, f 26, f 27, f 28, f 29, f 30, f 31, f 32, f 33, f 34, f 35, f 36, f 37, f 38, f 39, f 40, f 41, f 42, f 43, f 44, f 45, f 46, f 47, f 48, f 49, f 50, f 51, f 52, f 53, f 54, f 55, f 56, f 57, f 58, f 59, f 60, f 61, f 62, f 63, f 64, f 65, f 66, f 67, f 68, f 69, f 70, f 71, f 72, f 73, f 74, f 75, f 76, f 77, f 78, f 79, f 80, f 81, f 82, f 83, f 84, f 85, f 86, f 87, f 88, f 89] := by kernel_rfl
def PO1 (w : World) (b2 bp B : Nat) (aP : Option Addr) (cP n : Nat) (K : List PredInfo) (W : World) : Prop :=
  blk W b2 = some (prgE none 0 0 none 0 0 0) ∧ free W b2 = true ∧ blk W bp = some (prgE aP n cP none 0 0 0) ∧ free W bp = true ∧ n = K.length ∧ W.ownsRow B 61 3 (.slice aP n cP) K.length (K.flatMap PredInfo.enc) ∧ (∀ x ∈ K, 0 ≤ x.arity ∧ x.arity ≤ 4) ∧ n ≤ 64 ∧ w.Extends W ∧ B ≤ W.heap.size
def poA (w : World) (a : Option Addr) (len cap b2 bp B : Nat) (f : Nat → Value) (W : World) : Prop :=
  f 0 = .slice a len cap ∧ f 2 = .pointer (some ⟨b2, 0, none⟩) ∧ f 3 = .pointer (some ⟨bp, 0, none⟩) ∧ ∃ (i : Nat) (aP : Option Addr) (cP n : Nat) (K : List PredInfo), i ≤ len ∧ f 4 = .int .i64 (i : Nat) ∧ Hid (PO1 w b2 bp B aP cP n K W)
def PO2 (w : World) (b2 bp bP B : Nat) (aP : Option Addr) (N cP : Nat) (P0 : List PredInfo) (aR : Option Addr) (n cR : Nat) (R : List GRule) (S : Int) (P : List PredInfo) (W : World) : Prop :=
  PM bp bP aP N cP aR n cR S P W ∧ Kin P0 P ∧ blk W b2 = some (prgE none 0 0 none 0 0 0) ∧ free W b2 = true ∧ n = R.length ∧ W.ownsRow B 52 10 (.slice aR n cR) R.length (R.flatMap GRule.enc) ∧ (∀ r ∈ R, RGood w N P0 r) ∧ (R = [] ∨ 1 ≤ S) ∧ S ≤ 65 ∧ n ≤ 128 ∧ w.Extends W ∧ B ≤ W.heap.size
def poB (w : World) (a : Option Addr) (len cap b2 bp bP B : Nat) (aP : Option Addr) (N cP : Nat) (P0 : List PredInfo) (f : Nat → Value) (W : World) : Prop :=
  f 0 = .slice a len cap ∧ f 2 = .pointer (some ⟨b2, 0, none⟩) ∧ f 3 = .pointer (some ⟨bp, 0, none⟩) ∧ ∃ (i : Nat) (aR : Option Addr) (n cR : Nat) (R : List GRule) (S : Int) (P : List PredInfo), i ≤ len ∧ f 5 = .int .i64 (i : Nat) ∧ Hid (PO2 w b2 bp bP B aP N cP P0 aR n cR R S P W)
def ProgPost (w : World) (e : Ending) (W' : World) : Prop :=
  ∃ (bP bR : Nat) (aP : Option Addr) (N cP : Nat) (aR : Option Addr) (M cR : Nat) (S : Int) (P : List PredInfo) (R : List GRule), e = .returned (.agg (prgE aP N cP aR M cR S).toArray) ∧ w.Extends W' ∧ At PredInfo.enc 3 W' bP 0 aP N P ∧ (N ≠ 0 → free W' bP = true ∧ w.heap.size ≤ bP) ∧ At GRule.enc 10 W' bR 0 aR M R ∧ (M ≠ 0 → w.heap.size ≤ bR ∧ (N ≠ 0 → bR ≠ bP)) ∧ N ≤ 64 ∧ M ≤ 128 ∧ 1 ≤ S ∧ S ≤ 65 ∧ (∀ x ∈ P, 0 ≤ x.arity ∧ x.arity ≤ 4) ∧ ∀ r ∈ R, RGood w N P r
theorem op_cells {C : List Value} {o : Nat} {g : GOp} (h : seg C o 18 = g.enc) : nth C o = some (.int .i64 g.kind) ∧ nth C (o + 6) = some (.int .i64 g.n) ∧ nth C (o + 7) = some (.bool g.base) ∧ seg C (o + 8) 10 = g.rule.enc :=
  ⟨by simpa using nth_in h (GOp.kind_get g) (by omega), nth_in h (GOp.n_get g) (by omega), nth_in h (GOp.base_get g) (by omega), (seg_in (p := 8) (m := 10) h (by omega)).trans (GOp.rule_get g)⟩
theorem prg_put (aP : Option Addr) (N cP : Nat) (aR : Option Addr) (M cR : Nat) (S : Int) (aP' : Option Addr) (N' cP' : Nat) (aR' : Option Addr) (M' cR' : Nat) (S' : Int) : splice (prgE aP N cP aR M cR S) 0 (prgE aP' N' cP' aR' M' cR' S') = prgE aP' N' cP' aR' M' cR' S' := GProgram.all_set _ _
attribute [local go_sem] prg_put prg_len prg0 prg1 prg2 prg_set0 prg_set1 prg_set2 prg_all prg_ok build61 bslice24 bslice25 sl25
attribute [local go_sem ↓] execOp_build execOp_bslice execOp_slice
set_option maxRecDepth 20000 in
set_option maxHeartbeats 8000000 in
theorem programOf_any (w : World) (a : Option Addr) (len cap : Nat) (g : Nat → GOp) (dt : Nat → List Literal) (hS : ScriptAt w a len cap g dt) (hlen : len ≤ 65536) :
    Calls Try.prog 10 #[.slice a len cap] w (ProgPost w) := by
  have HS : Hid (ScriptAt w a len cap g dt) := hS
  clear hS
  go_enter Try.func10, Try.ntmps10
  go_upto_region 2 with fail
  refine wp_world (fun W => blk W w.heap.size = some (prgE none 0 0 none 0 0 0) ∧ free W w.heap.size = true ∧ blk W (w.heap.size + 1) = some (prgE none 0 0 none 0 0 0) ∧ free W (w.heap.size + 1) = true ∧ W.heap.size = w.heap.size + 2 ∧ w.Extends W) ⟨?_, ?_, ?_, ?_, ?_, extends_alloc (extends_alloc (ext_Ext (Ext.refl w)) _) _⟩ ?_
  · rw [blk_alloc, if_neg (by rw [World.size_alloc]; omega), blk_alloc, if_pos rfl]; rfl
  · rw [free_alloc, if_neg (by rw [World.size_alloc]; omega), free_alloc, if_pos rfl]
  · rw [blk_alloc, if_pos (by rw [World.size_alloc])]; rfl
  · rw [free_alloc, if_pos (by rw [World.size_alloc])]
  · rw [World.size_alloc, World.size_alloc]
  rintro W0 ⟨i1, i2, i3, i4, i5, i6⟩
  obtain ⟨b2, hb2⟩ : ∃ b2, b2 = w.heap.size := ⟨_, rfl⟩
  obtain ⟨bp, hbp⟩ : ∃ bp, bp = b2 + 1 := ⟨_, rfl⟩
  rw [← hb2, ← hbp] at i3 i4
  rw [← hb2] at i1 i2
  rw [← hb2, ← hbp]
  have h2p : ¬ b2 = bp := by omega
  have hp2 : ¬ bp = b2 := by omega
  have hwp : w.heap.size ≤ bp := by omega
  have hw2 : w.heap.size ≤ b2 := by omega
  obtain ⟨B, hB⟩ : ∃ B, B = W0.heap.size := ⟨_, rfl⟩
  have hpB : bp < B := by omega
  have h2B : b2 < B := by omega
  have H0 : Hid (PO1 w b2 bp B none 0 0 [] W0) := ⟨i1, i2, i3, i4, rfl, ⟨rfl, .inl ⟨rfl, rfl⟩⟩, by simp, by omega, i6, by omega⟩
  clear i1 i2 i3 i4 i5 i6 hb2 hbp hB
  go_wp2_with fail
  refine wp_loop_f 90 (poA w a len cap b2 bp B) (fun f _ => len - (intOf (f 4)).toNat) rfl ?_ ?_
  · exact ⟨rfl, rfl, rfl, 0, none, 0, 0, [], by omega, rfl, H0⟩
  clear H0 W0
  intro F W hrel
  obtain ⟨f0, f2, f3, i, aP, cP, n, K, hi, f4, HQ⟩ := hrel
  have H4 : Hid (F 4 = .int .i64 (i : Nat)) := f4
  rw [frame90, f0, f2, f3, f4]
  clear f0 f2 f3 f4
  by_cases hil : i < len
  · obtain ⟨bs, o, C, rfl, hC, hlC, hseg⟩ := (HS.out.mono HQ.out.2.2.2.2.2.2.2.2.1).2.2.2 (by omega)
    have hbsw : bs < w.heap.size := by
      obtain ⟨bs', o', C', e1, e2, _⟩ := HS.out.2.2.2 (by omega)
      injection e1 with e1
      injection e1 with e1
      rw [e1]; exact blk_lt e2
    obtain ⟨c0, c6, c7, _⟩ := op_cells (hseg i hil)
    obtain ⟨kd, hkd⟩ : ∃ kd, kd = (g i).kind := ⟨_, rfl⟩
    obtain ⟨an, han⟩ : ∃ an, an = (g i).n := ⟨_, rfl⟩
    obtain ⟨bb, hbb⟩ : ∃ bb, bb = (g i).base := ⟨_, rfl⟩
    rw [← hkd] at c0
    rw [← han] at c6
    rw [← hbb] at c7
    clear hseg hkd han hbb
    have q0 : (0 : Int) ≤ (i : Int) := by omega
    have q1 : (i : Int) < (len : Int) := by omega
    have q2 : ((i : Int)).toNat = i := by omega
    have q3 : o + i * 18 + 18 ≤ C.length := by omega
    obtain ⟨hz2, hf2, hbP, hfP, hnK, hrow, hK4, hn64, hext, hBW⟩ := HQ.out
    have nbs : ¬ bs = bp := by omega
    by_cases t1 : kd = 0
    · by_cases t2 : 0 ≤ an
      · by_cases t3 : an ≤ 4
        · by_cases t4 : (n : Int) < 64
          · obtain ⟨x, hx⟩ : ∃ x : PredInfo, x = ⟨an, bb, 0⟩ := ⟨_, rfl⟩
            obtain ⟨W1, hW1⟩ : ∃ W1, W1 = W.drew.alloc (.cells x.enc.toArray 61) := ⟨_, rfl⟩
            have hx1 : W.drew.Extends W1 := by rw [hW1]; exact extends_alloc (ext_Ext (Ext.refl _)) _
            have hsz1 : W.heap.size ≤ W1.heap.size := hx1.size
            have hpW := blk_lt hbP
            have h2W := blk_lt hz2
            have hsW := blk_lt hC
            have hCa : blk W1 bs = some C := (hx1.blk hsW).trans hC
            have nbW : ¬ bp = W.heap.size := by omega
            have nbW' : ¬ bs = W.heap.size := by omega
            obtain ⟨v', W2, hrun, ho2, hg2, hb2'⟩ := appG PredInfo.enc 3 24 24 61 Try.underlying24 info61 PredInfo.length_enc PredInfo.one_enc (by omega) (by omega) B W1 24 (.slice aP n cP) K x W.heap.size 1 (row_keep hrow (fun k hk => hx1.block k (row_at hrow k hk).2.1)) (by rw [hW1]; exact (blk_alloc _ _ _ _).trans (if_pos rfl)) (Nat.le_trans hBW hx1.size) (by omega)
            have hne : ∀ k, k < B → some k ≠ (Value.slice aP n cP).ownBlock := fun k hk e => by have := (row_at hrow k e.symm).1; omega
            have hC2 : blk W2 bs = some C := (blk_of_heap (hg2.block bs (by omega) (hne bs (by omega)))).trans hCa
            have hbP2 : blk W2 bp = some (prgE aP n cP none 0 0 0) := (blk_of_heap (hg2.block bp (by omega) (hne bp hpB))).trans ((hx1.blk hpW).trans hbP)
            have hfP2 : free W2 bp = true := (free_of_heap (hg2.block bp (by omega) (hne bp hpB))).trans ((free_of_heap (hx1.block bp hpW)).trans hfP)
            have hz22 : blk W2 b2 = some (prgE none 0 0 none 0 0 0) := (blk_of_heap (hg2.block b2 (by omega) (hne b2 h2B))).trans ((hx1.blk h2W).trans hz2)
            have hf22 : free W2 b2 = true := (free_of_heap (hg2.block b2 (by omega) (hne b2 h2B))).trans ((free_of_heap (hx1.block b2 h2W)).trans hf2)
            have hext2 : w.Extends W2 := grown_ext ((extends_drew hext).trans hx1) hg2 (fun k hk => by have := (row_at hrow k hk).1; omega)
            obtain ⟨aP', cP', rfl⟩ := row_val ho2
            have hBW2 : B ≤ W2.heap.size := Nat.le_trans (Nat.le_trans hBW hx1.size) hg2.size
            obtain ⟨m, hm⟩ : ∃ m, m = (K ++ [x]).length := ⟨_, rfl⟩
            have hm1 : m = n + 1 := by rw [hm, List.length_append, List.length_singleton, hnK]
            rw [← hm] at hrun ho2
            have HQ' : Hid (PO1 w b2 bp B aP' cP' m (K ++ [x]) (put W2 bp (prgE aP' m cP' none 0 0 0))) := by
              refine ⟨by rw [blk_put, if_neg h2p]; exact hz22, by rw [free_put]; exact hf22, by rw [blk_put, if_pos rfl, hbP2]; rfl, by rw [free_put]; exact hfP2, hm, ?_, ?_, by omega, ?_, by rw [size_put]; exact hBW2⟩
              · rw [← hm]
                refine row_keep ho2 (fun k hk => ?_)
                rw [heap_put, if_neg (fun e => by have := (row_at ho2 k hk).1; omega)]
              · intro y hy
                rcases List.mem_append.1 hy with h | h
                · exact hK4 y h
                · obtain rfl : y = x := by simpa using h
                  rw [hx]; exact ⟨t2, t3⟩
              · exact (Side.put (D := fun k => k = bp) (Side.refl _ _) rfl _).extends hext2 (fun k hk => by rw [hk]; exact hwp)
            clear hm hm1 ho2 hg2 hb2' hne hext2 hBW2 hz22 hf22 hx1 hext hrow hK4 HQ hnK hz2 hf2
            subst hW1
            subst hx
            repeat go_step
            refine wp_region_held_drew (S := fun W' => blk W' bs = some C ∧ True) (by kernel_rfl) ⟨hC, trivial⟩ (fun hHeld => ?_)
            refine wpAnyH_take (i := 0) (oi := ⟨_, _, _, _, _, _⟩) (v := ?_) rfl (by kernel_rfl) (by kernel_rfl) (by kernel_rfl) (fun _ _ _ h => h) (Or.inl ⟨by rfl, ?_⟩) (by assumption) ?_
            rotate_left 1
            · intro W' hSw
              obtain ⟨hS1, hS2⟩ := hSw
              go_simp
              try with_reducible rfl
            try simp only [Act.put, List.setIfInBounds_toArray, List.set_cons_zero, List.set_cons_succ]
            refine wpAnyH_take (i := 2) (oi := ⟨_, _, _, _, _, _⟩) (v := ?_) rfl (by kernel_rfl) (by kernel_rfl) (by kernel_rfl) (fun _ _ _ h => h) (Or.inl ⟨by rfl, ?_⟩) (by assumption) ?_
            rotate_left 1
            · intro W' hSw
              obtain ⟨hS1, hS2⟩ := hSw
              go_simp
              try with_reducible rfl
            try simp only [Act.put, List.setIfInBounds_toArray, List.set_cons_zero, List.set_cons_succ]
            refine wpAnyH_take (i := 3) (oi := ⟨_, _, _, _, _, _⟩) (v := ?_) rfl (by kernel_rfl) (by kernel_rfl) (by kernel_rfl) (fun _ _ _ h => h) (Or.inl ⟨by rfl, ?_⟩) (by assumption) ?_
            rotate_left 1
            · intro W' hSw
              obtain ⟨hS1, hS2⟩ := hSw
              go_simp
              try with_reducible rfl
            try simp only [Act.put, List.setIfInBounds_toArray, List.set_cons_zero, List.set_cons_succ]
            refine wpAnyH_take (i := 4) (oi := ⟨_, _, _, _, _, _⟩) (v := ?_) rfl (by kernel_rfl) (by kernel_rfl) (by kernel_rfl) (fun _ _ _ h => h) (Or.inl ⟨by rfl, ?_⟩) (by assumption) ?_
            rotate_left 1
            · intro W' hSw
              obtain ⟨hS1, hS2⟩ := hSw
              go_simp
              try with_reducible rfl
            try simp only [Act.put, List.setIfInBounds_toArray, List.set_cons_zero, List.set_cons_succ]
            refine wpAnyH_take (i := 5) (oi := ⟨_, _, _, _, _, _⟩) (v := ?_) rfl (by kernel_rfl) (by kernel_rfl) (by kernel_rfl) (fun _ _ _ h => h) (Or.inl ⟨by rfl, ?_⟩) (by assumption) ?_
            rotate_left 1
            · intro W' hSw
              obtain ⟨hS1, hS2⟩ := hSw
              go_simp
              try with_reducible rfl
            try simp only [Act.put, List.setIfInBounds_toArray, List.set_cons_zero, List.set_cons_succ]
            refine wpAnyH_take (i := 6) (oi := ⟨_, _, _, _, _, _⟩) (v := ?_) rfl (by kernel_rfl) (by kernel_rfl) (by kernel_rfl) (fun _ _ _ h => h) (Or.inl ⟨by rfl, ?_⟩) (by assumption) ?_
            rotate_left 1
            · intro W' hSw
              obtain ⟨hS1, hS2⟩ := hSw
              go_simp
              try with_reducible rfl
            try simp only [Act.put, List.setIfInBounds_toArray, List.set_cons_zero, List.set_cons_succ]
            refine wpAnyH_take (i := 7) (oi := ⟨_, _, _, _, _, _⟩) (v := ?_) rfl (by kernel_rfl) (by kernel_rfl) (by kernel_rfl) (fun _ _ _ h => h) (Or.inl ⟨by rfl, ?_⟩) (by assumption) ?_
            rotate_left 1
            · intro W' hSw
              obtain ⟨hS1, hS2⟩ := hSw
              go_simp
              try with_reducible rfl
            try simp only [Act.put, List.setIfInBounds_toArray, List.set_cons_zero, List.set_cons_succ]
            refine wpAnyH_take (i := 8) (oi := ⟨_, _, _, _, _, _⟩) (v := ?_) rfl (by kernel_rfl) (by kernel_rfl) (by kernel_rfl) (fun _ _ _ h => h) (Or.inl ⟨by rfl, ?_⟩) (by assumption) ?_
            rotate_left 1
            · intro W' hSw
              obtain ⟨hS1, hS2⟩ := hSw
              go_simp
              try with_reducible rfl
            try simp only [Act.put, List.setIfInBounds_toArray, List.set_cons_zero, List.set_cons_succ]
            refine wpAnyH_take (i := 9) (oi := ⟨_, _, _, _, _, _⟩) (v := ?_) rfl (by kernel_rfl) (by kernel_rfl) (by kernel_rfl) (fun _ _ _ h => h) (Or.inl ⟨by rfl, ?_⟩) (by assumption) ?_
            rotate_left 1
            · intro W' hSw
              obtain ⟨hS1, hS2⟩ := hSw
              go_simp
              try with_reducible rfl
            try simp only [Act.put, List.setIfInBounds_toArray, List.set_cons_zero, List.set_cons_succ]
            refine wpAnyH_take (i := 10) (oi := ⟨_, _, _, _, _, _⟩) (v := ?_) rfl (by kernel_rfl) (by kernel_rfl) (by kernel_rfl) (fun _ _ _ h => h) (Or.inl ⟨by rfl, ?_⟩) (by assumption) ?_
            rotate_left 1
            · intro W' hSw
              obtain ⟨hS1, hS2⟩ := hSw
              go_simp
              try with_reducible rfl
            try simp only [Act.put, List.setIfInBounds_toArray, List.set_cons_zero, List.set_cons_succ]
            refine wpAnyH_take (i := 11) (oi := ⟨_, _, _, _, _, _⟩) (v := ?_) rfl (by kernel_rfl) (by kernel_rfl) (by kernel_rfl) (fun _ _ _ h => h) (Or.inl ⟨by rfl, ?_⟩) (by assumption) ?_
            rotate_left 1
            · intro W' hSw
              obtain ⟨hS1, hS2⟩ := hSw
              go_simp
              try with_reducible rfl
            try simp only [Act.put, List.setIfInBounds_toArray, List.set_cons_zero, List.set_cons_succ]
            refine wpAnyH_take (i := 12) (oi := ⟨_, _, _, _, _, _⟩) (v := ?_) rfl (by kernel_rfl) (by kernel_rfl) (by kernel_rfl) (fun _ _ _ h => h) (Or.inl ⟨by rfl, ?_⟩) (by assumption) ?_
            rotate_left 1
            · intro W' hSw
              obtain ⟨hS1, hS2⟩ := hSw
              go_simp
              try with_reducible rfl
            try simp only [Act.put, List.setIfInBounds_toArray, List.set_cons_zero, List.set_cons_succ]
            refine wpAnyH_ready (rs := [1, 13]) (by kernel_rfl) (by simp) ?_
            refine AllReadyH.cons (o := ⟨_, _, _, _, _, _⟩) rfl (fun K' hK => ?_) (AllReadyH.cons (o := ⟨_, _, _, _, _, _⟩) rfl (fun K' hK => ?_) AllReadyH.nil)
            · go_simp
              refine hK.out _ _ ⟨hC, trivial⟩ (fun hHeld => ?_)
              clear hK K'
              try simp only [Act.put, List.setIfInBounds_toArray, List.set_cons_zero, List.set_cons_succ]
              refine wpAnyH_ready (rs := [13]) (by kernel_rfl) (by simp) ?_
              refine AllReadyH.cons (o := ⟨_, _, _, _, _, _⟩) rfl (fun K' hK => ?_) AllReadyH.nil
              go_simp
              refine hK.out _ _ ⟨hCa, trivial⟩ (fun hHeld => ?_)
              clear hK K'
              try simp only [Act.put, List.setIfInBounds_toArray, List.set_cons_zero, List.set_cons_succ]
              refine wpAnyH_ready (rs := [14]) (by kernel_rfl) (by simp) ?_
              refine AllReadyH.cons (o := ⟨_, _, _, _, _, _⟩) rfl (fun K' hK => ?_) AllReadyH.nil
              rw [if_pos (by rfl)]
              refine wp_append_run _ _ 24 rfl _ _ _ _ rfl rfl hrun ?_
              refine hK.out _ _ ⟨hC2, trivial⟩ (fun hHeld => ?_)
              clear hK K'
              try simp only [Act.put, List.setIfInBounds_toArray, List.set_cons_zero, List.set_cons_succ]
              refine wpAnyH_take (i := 15) (oi := ⟨_, _, _, _, _, _⟩) (v := ?_) rfl (by kernel_rfl) (by kernel_rfl) (by kernel_rfl) (fun _ _ _ h => h) (Or.inl ⟨by rfl, ?_⟩) (by assumption) ?_
              rotate_left 1
              · intro W' hSw
                obtain ⟨hS1, hS2⟩ := hSw
                go_simp
                try with_reducible rfl
              try simp only [Act.put, List.setIfInBounds_toArray, List.set_cons_zero, List.set_cons_succ]
              refine wpAnyH_ready (rs := [16]) (by kernel_rfl) (by simp) ?_
              refine AllReadyH.cons (o := ⟨_, _, _, _, _, _⟩) rfl (fun K' hK => ?_) AllReadyH.nil
              go_simp
              refine hK.out _ _ ⟨by rw [blk_put, if_neg nbs]; exact hC2, trivial⟩ (fun hHeld => ?_)
              clear hK K'
              try simp only [Act.put, List.setIfInBounds_toArray, List.set_cons_zero, List.set_cons_succ]
              refine wpAnyH_done (by kernel_rfl) ?_ _
              go_wp2_with fail
              refine ⟨rfl, rfl, ⟨rfl, rfl, rfl, i + 1, aP', cP', m, K ++ [_], by omega, ?_, HQ'⟩, ?_⟩
              · show Value.int .i64 _ = _
                go_num
              · show len - (intOf (Value.int .i64 _)).toNat < len - (intOf (F 4)).toNat
                rw [H4.out]
                simp [intOf]; omega
            · go_simp
              refine hK.out _ _ ⟨hCa, trivial⟩ (fun hHeld => ?_)
              clear hK K'
              try simp only [Act.put, List.setIfInBounds_toArray, List.set_cons_zero, List.set_cons_succ]
              refine wpAnyH_ready (rs := [1]) (by kernel_rfl) (by simp) ?_
              refine AllReadyH.cons (o := ⟨_, _, _, _, _, _⟩) rfl (fun K' hK => ?_) AllReadyH.nil
              go_simp
              refine hK.out _ _ ⟨hCa, trivial⟩ (fun hHeld => ?_)
              clear hK K'
              try simp only [Act.put, List.setIfInBounds_toArray, List.set_cons_zero, List.set_cons_succ]
              refine wpAnyH_ready (rs := [14]) (by kernel_rfl) (by simp) ?_
              refine AllReadyH.cons (o := ⟨_, _, _, _, _, _⟩) rfl (fun K' hK => ?_) AllReadyH.nil
              rw [if_pos (by rfl)]
              refine wp_append_run _ _ 24 rfl _ _ _ _ rfl rfl hrun ?_
              refine hK.out _ _ ⟨hC2, trivial⟩ (fun hHeld => ?_)
              clear hK K'
              try simp only [Act.put, List.setIfInBounds_toArray, List.set_cons_zero, List.set_cons_succ]
              refine wpAnyH_take (i := 15) (oi := ⟨_, _, _, _, _, _⟩) (v := ?_) rfl (by kernel_rfl) (by kernel_rfl) (by kernel_rfl) (fun _ _ _ h => h) (Or.inl ⟨by rfl, ?_⟩) (by assumption) ?_
              rotate_left 1
              · intro W' hSw
                obtain ⟨hS1, hS2⟩ := hSw
                go_simp
                try with_reducible rfl
              try simp only [Act.put, List.setIfInBounds_toArray, List.set_cons_zero, List.set_cons_succ]
              refine wpAnyH_ready (rs := [16]) (by kernel_rfl) (by simp) ?_
              refine AllReadyH.cons (o := ⟨_, _, _, _, _, _⟩) rfl (fun K' hK => ?_) AllReadyH.nil
              go_simp
              refine hK.out _ _ ⟨by rw [blk_put, if_neg nbs]; exact hC2, trivial⟩ (fun hHeld => ?_)
              clear hK K'
              try simp only [Act.put, List.setIfInBounds_toArray, List.set_cons_zero, List.set_cons_succ]
              refine wpAnyH_done (by kernel_rfl) ?_ _
              go_wp2_with fail
              refine ⟨rfl, rfl, ⟨rfl, rfl, rfl, i + 1, aP', cP', m, K ++ [_], by omega, ?_, HQ'⟩, ?_⟩
              · show Value.int .i64 _ = _
                go_num
              · show len - (intOf (Value.int .i64 _)).toNat < len - (intOf (F 4)).toNat
                rw [H4.out]
                simp [intOf]; omega
          · go_wp2_with fail
            refine ⟨rfl, rfl, ⟨rfl, rfl, rfl, i + 1, aP, cP, n, K, by omega, ?_, HQ⟩, ?_⟩
            · show Value.int .i64 _ = _
              go_num
            · show len - (intOf (Value.int .i64 _)).toNat < len - (intOf (F 4)).toNat
              rw [H4.out]
              simp [intOf]; omega
        · go_wp2_with fail
          refine ⟨rfl, rfl, ⟨rfl, rfl, rfl, i + 1, aP, cP, n, K, by omega, ?_, HQ⟩, ?_⟩
          · show Value.int .i64 _ = _
            go_num
          · show len - (intOf (Value.int .i64 _)).toNat < len - (intOf (F 4)).toNat
            rw [H4.out]
            simp [intOf]; omega
      · go_wp2_with fail
        refine ⟨rfl, rfl, ⟨rfl, rfl, rfl, i + 1, aP, cP, n, K, by omega, ?_, HQ⟩, ?_⟩
        · show Value.int .i64 _ = _
          go_num
        · show len - (intOf (Value.int .i64 _)).toNat < len - (intOf (F 4)).toNat
          rw [H4.out]
          simp [intOf]; omega
    · go_wp2_with fail
      refine ⟨rfl, rfl, ⟨rfl, rfl, rfl, i + 1, aP, cP, n, K, by omega, ?_, HQ⟩, ?_⟩
      · show Value.int .i64 _ = _
        go_num
      · show len - (intOf (Value.int .i64 _)).toNat < len - (intOf (F 4)).toNat
        rw [H4.out]
        simp [intOf]; omega
  obtain rfl : i = len := by omega
  obtain ⟨hz2, hf2, hbP, hfP, hnK, hrow, hK4, hn64, hext, hBW⟩ := HQ.out
  obtain ⟨a', b', c', e1, e2, e3, e4, e5, e6⟩ := own_at PredInfo.length_enc hrow
  injection e1 with g1 g2 g3
  subst g1 g3
  obtain ⟨bP, hwP, hpP, h2P, hPB, hAt, hPf⟩ : ∃ bP, w.heap.size ≤ bP ∧ bp ≠ bP ∧ (n ≠ 0 → b2 ≠ bP) ∧ (n ≠ 0 → bP < W.heap.size) ∧ At PredInfo.enc 3 W bP 0 aP n K ∧ (n ≠ 0 → free W bP = true) := by
    by_cases h0 : n = 0
    · exact ⟨bp + 1, by omega, by omega, fun h => absurd h0 h, fun h => absurd h0 h, ⟨by omega, fun h => absurd h0 h⟩, fun h => absurd h0 h⟩
    · have q := e4 (by omega)
      have hA : At PredInfo.enc 3 W b' 0 aP n K := by rw [hnK]; exact e5
      obtain ⟨_, C, h1, _⟩ := hA.2 h0
      exact ⟨b', by omega, by omega, fun _ => by omega, fun _ => blk_lt h1, hA, fun _ => own_free hA h0 q.2⟩
  obtain ⟨B2, hB2⟩ : ∃ B2, B2 = W.heap.size := ⟨_, rfl⟩
  have hpB2 : bp < B2 := by omega
  have h2B2 : b2 < B2 := by omega
  have hPB2 : n ≠ 0 → bP < B2 := fun h => by rw [hB2]; exact hPB h
  have H0 : Hid (PO2 w b2 bp bP B2 aP n cP K none 0 0 [] 0 K W) := ⟨⟨hbP, hfP, hAt, hPf⟩, rfl, hz2, hf2, rfl, ⟨rfl, .inl ⟨rfl, rfl⟩⟩, by simp, .inl rfl, by omega, by omega, hext, by omega⟩
  have HK4 : Hid (∀ x ∈ K, 0 ≤ x.arity ∧ x.arity ≤ 4) := hK4
  have HPB : Hid (n ≠ 0 → bP < B2) := hPB2
  have HPP : Hid (bp ≠ bP) := hpP
  have HP2 : Hid (n ≠ 0 → b2 ≠ bP) := h2P
  clear hz2 hf2 hbP hfP hrow hK4 hext hBW e2 e3 e4 e5 e6 g2 hPB hAt hPf hPB2 HQ hB2 h2P hnK
  go_wp2_with fail
  clear H4
  refine wp_loop_f 90 (poB w a i cap b2 bp bP B2 aP n cP K) (fun f _ => i - (intOf (f 5)).toNat) rfl ?_ ?_
  · exact ⟨rfl, rfl, rfl, 0, none, 0, 0, [], 0, K, by omega, rfl, H0⟩
  clear H0
  intro F W hrel
  obtain ⟨f0, f2, f3, j, aR, m, cR, R, S, P, hj, f5, HQ⟩ := hrel
  have H5 : Hid (F 5 = .int .i64 (j : Nat)) := f5
  rw [frame90, f0, f2, f3, f5]
  clear f0 f2 f3 f5
  obtain ⟨hPM, hKin, hz2, hf2, hmR, hrow, hgood, hS1, hS65, hm128, hext, hBW⟩ := HQ.out
  have hbPW := hPM.1
  have hfP := hPM.2.1
  by_cases hjl : j < i
  · obtain ⟨bs, o, C, rfl, hC, hlC, hseg⟩ := (HS.out.mono hext).2.2.2 (by omega)
    have hbsw : bs < w.heap.size := by
      obtain ⟨bs', o', C', e1, e2, _⟩ := HS.out.2.2.2 (by omega)
      injection e1 with e1
      injection e1 with e1
      rw [e1]; exact blk_lt e2
    obtain ⟨c0, _, _, c8⟩ := op_cells (hseg j hjl)
    have HRD : Hid (RRead w (g j).rule) := ⟨_, _, _, _, rbody_of (HS.out.2.2.1 j hjl).1⟩
    obtain ⟨kd, hkd⟩ : ∃ kd, kd = (g j).kind := ⟨_, rfl⟩
    obtain ⟨x, hx⟩ : ∃ x, x = (g j).rule := ⟨_, rfl⟩
    rw [← hkd] at c0
    rw [← hx] at c8 HRD
    clear hseg hkd hx
    have q0 : (0 : Int) ≤ (j : Int) := by omega
    have q1 : (j : Int) < (i : Int) := by omega
    have q2 : ((j : Int)).toNat = j := by omega
    have q3 : o + j * 18 + 18 ≤ C.length := by omega
    have q4 : o + j * 18 + 8 + 10 ≤ C.length := by omega
    have nbs : ¬ bs = bp := by omega
    by_cases t1 : kd = 1
    · obtain ⟨W1, hW1⟩ : ∃ W1, W1 = W.drew.alloc (.cells x.enc.toArray 52) := ⟨_, rfl⟩
      have hx1 : W.drew.Extends W1 := by rw [hW1]; exact extends_alloc (ext_Ext (Ext.refl _)) _
      have hsz1 : W.heap.size ≤ W1.heap.size := hx1.size
      have hpW := blk_lt hbPW
      have h2W := blk_lt hz2
      have hsW := blk_lt hC
      have hCa : blk W1 bs = some C := (hx1.blk hsW).trans hC
      have nbW : ¬ bp = W.heap.size := by omega
      have nbW' : ¬ bs = W.heap.size := by omega
      obtain ⟨v', W2, hrun, ho2, hg2, hb2'⟩ := appG GRule.enc 10 96 25 52 Try.underlying25 info52 GRule.length_enc GRule.one_enc (by omega) (by omega) B2 W1 25 (.slice aR m cR) R x W.heap.size 1 (row_keep hrow (fun k hk => hx1.block k (row_at hrow k hk).2.1)) (by rw [hW1]; exact (blk_alloc _ _ _ _).trans (if_pos rfl)) (Nat.le_trans hBW hx1.size) (by omega)
      have hne : ∀ k, k < B2 → some k ≠ (Value.slice aR m cR).ownBlock := fun k hk e => by have := (row_at hrow k e.symm).1; omega
      have hold : ∀ k, k < B2 → k < W.heap.size → W2.heap[k]? = W.heap[k]? := fun k hk hkW => (hg2.block k (by omega) (hne k hk)).trans (hx1.block k hkW)
      have hC2 : blk W2 bs = some C := (blk_of_heap (hold bs (by omega) hsW)).trans hC
      have hbP2 : blk W2 bp = some (prgE aP n cP aR m cR S) := (blk_of_heap (hold bp hpB2 hpW)).trans hbPW
      have hfP2 : free W2 bp = true := (free_of_heap (hold bp hpB2 hpW)).trans hfP
      have hz22 : blk W2 b2 = some (prgE none 0 0 none 0 0 0) := (blk_of_heap (hold b2 h2B2 h2W)).trans hz2
      have hf22 : free W2 b2 = true := (free_of_heap (hold b2 h2B2 h2W)).trans hf2
      have hext2 : w.Extends W2 := grown_ext ((extends_drew hext).trans hx1) hg2 (fun k hk => by have := (row_at hrow k hk).1; omega)
      obtain ⟨aR', cR', rfl⟩ := row_val ho2
      have hBW2 : B2 ≤ W2.heap.size := Nat.le_trans (Nat.le_trans hBW hx1.size) hg2.size
      have hm1 : (R ++ [x]).length = m + 1 := by rw [List.length_append, List.length_singleton, hmR]
      have hAt2 : At PredInfo.enc 3 W2 bP 0 aP n P := hPM.2.2.1.mono (fun h0 => by
        obtain ⟨_, C', h1, _⟩ := hPM.2.2.1.2 h0
        exact blk_of_heap (hold bP (HPB.out h0) (blk_lt h1)))
      have hPf2 : n ≠ 0 → free W2 bP = true := fun h0 => by
        obtain ⟨_, C', h1, _⟩ := hPM.2.2.1.2 h0
        exact (free_of_heap (hold bP (HPB.out h0) (blk_lt h1))).trans (hPM.2.2.2 h0)
      rw [hm1] at hrun
      obtain ⟨W3, hW3⟩ : ∃ W3, W3 = put W2 bp (prgE aP n cP aR' (m + 1) cR' S) := ⟨_, rfl⟩
      have hs3 : Side (fun k => k = bp) W2 W3 := by rw [hW3]; exact Side.put (D := fun k => k = bp) (Side.refl _ _) rfl _
      have hext3 : w.Extends W3 := hs3.extends hext2 (fun k hk => by rw [hk]; exact hwp)
      have HPM3 : Hid (PM bp bP aP n cP aR' (m + 1) cR' S P W3) := by
        rw [hW3]
        exact ⟨by rw [blk_put, if_pos rfl, hbP2]; rfl, by rw [free_put]; exact hfP2, hAt2.mono (fun _ => by rw [blk_put, if_neg (Ne.symm hpP)]), fun h0 => by rw [free_put]; exact hPf2 h0⟩
      have hrow3 : W3.ownsRow B2 52 10 (.slice aR' (m + 1) cR') (R ++ [x]).length ((R ++ [x]).flatMap GRule.enc) := by
        rw [← hm1]
        exact row_keep ho2 (fun k hk => hs3.block k (row_at ho2 k hk).2.1 (fun e => by have := (row_at ho2 k hk).1; omega))
      have HROW3 : Hid (W3.ownsRow B2 52 10 (.slice aR' (m + 1) cR') (R ++ [x]).length ((R ++ [x]).flatMap GRule.enc)) := hrow3
      have HZ3 : Hid (blk W3 b2 = some (prgE none 0 0 none 0 0 0) ∧ free W3 b2 = true ∧ B2 ≤ W3.heap.size ∧ w.Extends W3) := ⟨(blk_of_heap (hs3.block b2 (by omega) h2p)).trans hz22, (free_of_heap (hs3.block b2 (by omega) h2p)).trans hf22, Nat.le_trans hBW2 hs3.size, hext3⟩
      have HRR : Hid (∀ r ∈ R ++ [x], RRead w r) := fun r hr => by
        rcases List.mem_append.1 hr with h | h
        · obtain ⟨p1, p2, p3, p4, p5, _⟩ := hgood r h
          exact ⟨p1, p2, p3, p4, p5⟩
        · obtain rfl : r = x := by simpa using h
          exact HRD.out
      have HG : Hid (∀ r ∈ R, RGood w n K r) := hgood
      have HKin : Hid (Kin K P) := hKin
      have HS1 : Hid (R = [] ∨ 1 ≤ S) := hS1
      have HMR : Hid (m = R.length) := hmR
      have HFL : Hid ((R.flatMap GRule.enc).length = m * 10) := by show _ = _; rw [hmR]; exact hrow.1
      have hCf : blk W3 bs = some C := (blk_of_heap (hs3.block bs (by have := blk_lt hC2; omega) nbs)).trans hC2
      clear ho2 hg2 hb2' hne hext2 hBW2 hz22 hf22 hx1 hext hrow HQ hz2 hf2 hold hAt2 hPf2 hs3 hext3 hrow3 hgood hKin hS1 hmR hPM HRD hm1 hBW
      subst hW1
      repeat go_step
      refine wp_region_held_drew (S := fun W' => blk W' bs = some C ∧ True) (by kernel_rfl) ⟨hC, trivial⟩ (fun hHeld => ?_)
      refine wpAnyH_take (i := 0) (oi := ⟨_, _, _, _, _, _⟩) (v := ?_) rfl (by kernel_rfl) (by kernel_rfl) (by kernel_rfl) (fun _ _ _ h => h) (Or.inl ⟨by rfl, ?_⟩) (by assumption) ?_
      rotate_left 1
      · intro W' hSw
        obtain ⟨hS1, hS2⟩ := hSw
        go_simp
        try with_reducible rfl
      try simp only [Act.put, List.setIfInBounds_toArray, List.set_cons_zero, List.set_cons_succ]
      refine wpAnyH_take (i := 2) (oi := ⟨_, _, _, _, _, _⟩) (v := ?_) rfl (by kernel_rfl) (by kernel_rfl) (by kernel_rfl) (fun _ _ _ h => h) (Or.inl ⟨by rfl, ?_⟩) (by assumption) ?_
      rotate_left 1
      · intro W' hSw
        obtain ⟨hS1, hS2⟩ := hSw
        go_simp
        try with_reducible rfl
      try simp only [Act.put, List.setIfInBounds_toArray, List.set_cons_zero, List.set_cons_succ]
      refine wpAnyH_take (i := 3) (oi := ⟨_, _, _, _, _, _⟩) (v := ?_) rfl (by kernel_rfl) (by kernel_rfl) (by kernel_rfl) (fun _ _ _ h => h) (Or.inl ⟨by rfl, ?_⟩) (by assumption) ?_
      rotate_left 1
      · intro W' hSw
        obtain ⟨hS1, hS2⟩ := hSw
        go_simp
        try with_reducible rfl
      try simp only [Act.put, List.setIfInBounds_toArray, List.set_cons_zero, List.set_cons_succ]
      refine wpAnyH_take (i := 4) (oi := ⟨_, _, _, _, _, _⟩) (v := ?_) rfl (by kernel_rfl) (by kernel_rfl) (by kernel_rfl) (fun _ _ _ h => h) (Or.inl ⟨by rfl, ?_⟩) (by assumption) ?_
      rotate_left 1
      · intro W' hSw
        obtain ⟨hS1, hS2⟩ := hSw
        go_simp
        try with_reducible rfl
      try simp only [Act.put, List.setIfInBounds_toArray, List.set_cons_zero, List.set_cons_succ]
      refine wpAnyH_take (i := 5) (oi := ⟨_, _, _, _, _, _⟩) (v := ?_) rfl (by kernel_rfl) (by kernel_rfl) (by kernel_rfl) (fun _ _ _ h => h) (Or.inl ⟨by rfl, ?_⟩) (by assumption) ?_
      rotate_left 1
      · intro W' hSw
        obtain ⟨hS1, hS2⟩ := hSw
        go_simp
        try with_reducible rfl
      try simp only [Act.put, List.setIfInBounds_toArray, List.set_cons_zero, List.set_cons_succ]
      refine wpAnyH_take (i := 6) (oi := ⟨_, _, _, _, _, _⟩) (v := ?_) rfl (by kernel_rfl) (by kernel_rfl) (by kernel_rfl) (fun _ _ _ h => h) (Or.inl ⟨by rfl, ?_⟩) (by assumption) ?_
      rotate_left 1
      · intro W' hSw
        obtain ⟨hS1, hS2⟩ := hSw
        go_simp
        try with_reducible rfl
      try simp only [Act.put, List.setIfInBounds_toArray, List.set_cons_zero, List.set_cons_succ]
      refine wpAnyH_ready (rs := [1, 7]) (by kernel_rfl) (by simp) ?_
      refine AllReadyH.cons (o := ⟨_, _, _, _, _, _⟩) rfl (fun K' hK => ?_) (AllReadyH.cons (o := ⟨_, _, _, _, _, _⟩) rfl (fun K' hK => ?_) AllReadyH.nil)
      · go_simp
        refine hK.out _ _ ⟨hC, trivial⟩ (fun hHeld => ?_)
        clear hK K'
        try simp only [Act.put, List.setIfInBounds_toArray, List.set_cons_zero, List.set_cons_succ]
        refine wpAnyH_ready (rs := [7]) (by kernel_rfl) (by simp) ?_
        refine AllReadyH.cons (o := ⟨_, _, _, _, _, _⟩) rfl (fun K' hK => ?_) AllReadyH.nil
        go_simp
        refine hK.out _ _ ⟨hCa, trivial⟩ (fun hHeld => ?_)
        clear hK K'
        try simp only [Act.put, List.setIfInBounds_toArray, List.set_cons_zero, List.set_cons_succ]
        refine wpAnyH_ready (rs := [8]) (by kernel_rfl) (by simp) ?_
        refine AllReadyH.cons (o := ⟨_, _, _, _, _, _⟩) rfl (fun K' hK => ?_) AllReadyH.nil
        rw [if_pos (by rfl)]
        refine wp_append_run _ _ 25 rfl _ _ _ _ rfl rfl hrun ?_
        refine hK.out _ _ ⟨hC2, trivial⟩ (fun hHeld => ?_)
        clear hK K'
        try simp only [Act.put, List.setIfInBounds_toArray, List.set_cons_zero, List.set_cons_succ]
        refine wpAnyH_take (i := 9) (oi := ⟨_, _, _, _, _, _⟩) (v := ?_) rfl (by kernel_rfl) (by kernel_rfl) (by kernel_rfl) (fun _ _ _ h => h) (Or.inl ⟨by rfl, ?_⟩) (by assumption) ?_
        rotate_left 1
        · intro W' hSw
          obtain ⟨hS1, hS2⟩ := hSw
          go_simp
          try with_reducible rfl
        try simp only [Act.put, List.setIfInBounds_toArray, List.set_cons_zero, List.set_cons_succ]
        refine wpAnyH_ready (rs := [10]) (by kernel_rfl) (by simp) ?_
        refine AllReadyH.cons (o := ⟨_, _, _, _, _, _⟩) rfl (fun K' hK => ?_) AllReadyH.nil
        go_simp
        refine hK.out _ _ ⟨by rw [blk_put, if_neg nbs]; exact hC2, trivial⟩ (fun hHeld => ?_)
        clear hK K'
        try simp only [Act.put, List.setIfInBounds_toArray, List.set_cons_zero, List.set_cons_succ]
        refine wpAnyH_done (by kernel_rfl) ?_ _
        go_wp2_with fail
        rw [← hW3]
        obtain ⟨ra, rb, rc, r1, r2, r3, r4, r5, _⟩ := own_at GRule.length_enc HROW3.out
        injection r1 with s1 s2 s3
        subst s1 s3
        have hAR : At GRule.enc 10 W3 rb 0 aR' (m + 1) (R ++ [x]) := by rw [s2]; exact r5
        have hrb : B2 ≤ rb := (r4 (by rw [← s2]; omega)).1
        refine (verify_any W3 bp bP rb aP n cP aR' (m + 1) cR' S P (R ++ [x]) HPM3.out HPP.out hAR (fun _ => ⟨by omega, fun h0 => by have := HPB.out h0; omega⟩) (rd_of HZ3.out.2.2.2 hwp hwP HRR.out) hn64 (by omega) (fun y hy => by
          obtain ⟨k, hk, rfl⟩ := List.mem_iff_getElem.1 hy
          obtain ⟨z, hz, e1, _⟩ := HKin.out.get (List.getElem?_eq_getElem hk)
          rw [← e1]; exact HK4.out z (List.mem_of_getElem? hz))).mono ?_
        rintro e W4 ⟨b, P', S', rfl, hPM4, hK', hSd, hbt, hbf, _⟩
        have hnD : ∀ k, B2 ≤ k → ¬ DS n bp bP k := fun k hk hd => by
          rcases hd with h | h
          · omega
          · have := HPB.out h.1; omega
        have hn2 : ¬ DS n bp bP b2 := fun hd => by
          rcases hd with h | h
          · exact h2p h
          · exact HP2.out h.1 h.2
        have hrow4 : W4.ownsRow B2 52 10 (.slice aR' (m + 1) cR') (R ++ [x]).length ((R ++ [x]).flatMap GRule.enc) := row_keep HROW3.out (fun k hk => hSd.block k (row_at HROW3.out k hk).2.1 (hnD k (row_at HROW3.out k hk).1))
        have h2lt := blk_lt HZ3.out.1
        have hz4 : blk W4 b2 = some (prgE none 0 0 none 0 0 0) := (hSd.blk h2lt hn2).trans HZ3.out.1
        have hf4 : free W4 b2 = true := (free_of_heap (hSd.block b2 h2lt hn2)).trans HZ3.out.2.1
        have hext4 : w.Extends W4 := hSd.extends HZ3.out.2.2.2 (fun k hk => by rcases hk with h | h; rw [h]; exact hwp; rw [h.2]; exact hwP)
        have hB4 : B2 ≤ W4.heap.size := Nat.le_trans HZ3.out.2.2.1 hSd.size
        cases b with
        | true =>
          obtain ⟨⟨u1, u2⟩, u3, u4⟩ := hbt rfl
          have HQ' : Hid (PO2 w b2 bp bP B2 aP n cP K aR' (m + 1) cR' (R ++ [x]) S' P' W4) := ⟨hPM4, HKin.out.trans hK', hz4, hf4, s2, hrow4, good_of HZ3.out.2.2.2 hwp hwP HKin.out.symm HRR.out u4, .inr u1, u2, u3, hext4, hB4⟩
          clear hPM4 hK' hSd hbt hbf hnD hn2 hrow4 hz4 hf4 hext4 hB4 u4 hAR r4 r5 s2 r3 hrb
          go_wp2_with fail
          refine ⟨rfl, rfl, ⟨rfl, rfl, rfl, j + 1, aR', m + 1, cR', R ++ [x], S', P', by omega, ?_, HQ'⟩, ?_⟩
          · show Value.int .i64 _ = _
            go_num
          · show i - (intOf (Value.int .i64 _)).toNat < i - (intOf (F 5)).toNat
            rw [H5.out]
            simp [intOf]; omega
        | false =>
          obtain rfl := hbf rfl
          have hrow5 := hrow4
          rw [List.flatMap_append, ← s2] at hrow5
          obtain ⟨hrow6, hmc⟩ := own_drop hrow5 HFL.out
          obtain ⟨hb4, hf4p, hA4, hPf4⟩ := hPM4
          have HQ' : Hid (PO2 w b2 bp bP B2 aP n cP K aR' m cR' R S' P' (put W4 bp (prgE aP n cP aR' m cR' S'))) := by
            refine ⟨⟨by rw [blk_put, if_pos rfl, hb4]; rfl, by rw [free_put]; exact hf4p, hA4.mono (fun _ => by rw [blk_put, if_neg (Ne.symm HPP.out)]), fun h0 => by rw [free_put]; exact hPf4 h0⟩, HKin.out.trans hK', by rw [blk_put, if_neg h2p]; exact hz4, by rw [free_put]; exact hf4, HMR.out, ?_, HG.out, HS1.out, hS65, hm128, ?_, by rw [size_put]; exact hB4⟩
            · rw [← HMR.out]
              exact row_keep hrow6 (fun k hk => by rw [heap_put, if_neg (fun e => by have := (row_at hrow6 k hk).1; omega)])
            · exact (Side.put (D := fun k => k = bp) (Side.refl _ _) rfl _).extends hext4 (fun k hk => by rw [hk]; exact hwp)
          clear hK' hSd hbt hbf hnD hn2 hrow4 hrow5 hrow6 hz4 hf4 hext4 hB4 hAR r4 r5 s2 r3 hrb hA4 hPf4 HMR HG HS1
          go_wp2_with fail
          refine ⟨rfl, rfl, ⟨rfl, rfl, rfl, j + 1, aR', m, cR', R, S', P', by omega, ?_, HQ'⟩, ?_⟩
          · show Value.int .i64 _ = _
            go_num
          · show i - (intOf (Value.int .i64 _)).toNat < i - (intOf (F 5)).toNat
            rw [H5.out]
            simp [intOf]; omega
      · go_simp
        refine hK.out _ _ ⟨hCa, trivial⟩ (fun hHeld => ?_)
        clear hK K'
        try simp only [Act.put, List.setIfInBounds_toArray, List.set_cons_zero, List.set_cons_succ]
        refine wpAnyH_ready (rs := [1]) (by kernel_rfl) (by simp) ?_
        refine AllReadyH.cons (o := ⟨_, _, _, _, _, _⟩) rfl (fun K' hK => ?_) AllReadyH.nil
        go_simp
        refine hK.out _ _ ⟨hCa, trivial⟩ (fun hHeld => ?_)
        clear hK K'
        try simp only [Act.put, List.setIfInBounds_toArray, List.set_cons_zero, List.set_cons_succ]
        refine wpAnyH_ready (rs := [8]) (by kernel_rfl) (by simp) ?_
        refine AllReadyH.cons (o := ⟨_, _, _, _, _, _⟩) rfl (fun K' hK => ?_) AllReadyH.nil
        rw [if_pos (by rfl)]
        refine wp_append_run _ _ 25 rfl _ _ _ _ rfl rfl hrun ?_
        refine hK.out _ _ ⟨hC2, trivial⟩ (fun hHeld => ?_)
        clear hK K'
        try simp only [Act.put, List.setIfInBounds_toArray, List.set_cons_zero, List.set_cons_succ]
        refine wpAnyH_take (i := 9) (oi := ⟨_, _, _, _, _, _⟩) (v := ?_) rfl (by kernel_rfl) (by kernel_rfl) (by kernel_rfl) (fun _ _ _ h => h) (Or.inl ⟨by rfl, ?_⟩) (by assumption) ?_
        rotate_left 1
        · intro W' hSw
          obtain ⟨hS1, hS2⟩ := hSw
          go_simp
          try with_reducible rfl
        try simp only [Act.put, List.setIfInBounds_toArray, List.set_cons_zero, List.set_cons_succ]
        refine wpAnyH_ready (rs := [10]) (by kernel_rfl) (by simp) ?_
        refine AllReadyH.cons (o := ⟨_, _, _, _, _, _⟩) rfl (fun K' hK => ?_) AllReadyH.nil
        go_simp
        refine hK.out _ _ ⟨by rw [blk_put, if_neg nbs]; exact hC2, trivial⟩ (fun hHeld => ?_)
        clear hK K'
        try simp only [Act.put, List.setIfInBounds_toArray, List.set_cons_zero, List.set_cons_succ]
        refine wpAnyH_done (by kernel_rfl) ?_ _
        go_wp2_with fail
        rw [← hW3]
        obtain ⟨ra, rb, rc, r1, r2, r3, r4, r5, _⟩ := own_at GRule.length_enc HROW3.out
        injection r1 with s1 s2 s3
        subst s1 s3
        have hAR : At GRule.enc 10 W3 rb 0 aR' (m + 1) (R ++ [x]) := by rw [s2]; exact r5
        have hrb : B2 ≤ rb := (r4 (by rw [← s2]; omega)).1
        refine (verify_any W3 bp bP rb aP n cP aR' (m + 1) cR' S P (R ++ [x]) HPM3.out HPP.out hAR (fun _ => ⟨by omega, fun h0 => by have := HPB.out h0; omega⟩) (rd_of HZ3.out.2.2.2 hwp hwP HRR.out) hn64 (by omega) (fun y hy => by
          obtain ⟨k, hk, rfl⟩ := List.mem_iff_getElem.1 hy
          obtain ⟨z, hz, e1, _⟩ := HKin.out.get (List.getElem?_eq_getElem hk)
          rw [← e1]; exact HK4.out z (List.mem_of_getElem? hz))).mono ?_
        rintro e W4 ⟨b, P', S', rfl, hPM4, hK', hSd, hbt, hbf, _⟩
        have hnD : ∀ k, B2 ≤ k → ¬ DS n bp bP k := fun k hk hd => by
          rcases hd with h | h
          · omega
          · have := HPB.out h.1; omega
        have hn2 : ¬ DS n bp bP b2 := fun hd => by
          rcases hd with h | h
          · exact h2p h
          · exact HP2.out h.1 h.2
        have hrow4 : W4.ownsRow B2 52 10 (.slice aR' (m + 1) cR') (R ++ [x]).length ((R ++ [x]).flatMap GRule.enc) := row_keep HROW3.out (fun k hk => hSd.block k (row_at HROW3.out k hk).2.1 (hnD k (row_at HROW3.out k hk).1))
        have h2lt := blk_lt HZ3.out.1
        have hz4 : blk W4 b2 = some (prgE none 0 0 none 0 0 0) := (hSd.blk h2lt hn2).trans HZ3.out.1
        have hf4 : free W4 b2 = true := (free_of_heap (hSd.block b2 h2lt hn2)).trans HZ3.out.2.1
        have hext4 : w.Extends W4 := hSd.extends HZ3.out.2.2.2 (fun k hk => by rcases hk with h | h; rw [h]; exact hwp; rw [h.2]; exact hwP)
        have hB4 : B2 ≤ W4.heap.size := Nat.le_trans HZ3.out.2.2.1 hSd.size
        cases b with
        | true =>
          obtain ⟨⟨u1, u2⟩, u3, u4⟩ := hbt rfl
          have HQ' : Hid (PO2 w b2 bp bP B2 aP n cP K aR' (m + 1) cR' (R ++ [x]) S' P' W4) := ⟨hPM4, HKin.out.trans hK', hz4, hf4, s2, hrow4, good_of HZ3.out.2.2.2 hwp hwP HKin.out.symm HRR.out u4, .inr u1, u2, u3, hext4, hB4⟩
          clear hPM4 hK' hSd hbt hbf hnD hn2 hrow4 hz4 hf4 hext4 hB4 u4 hAR r4 r5 s2 r3 hrb
          go_wp2_with fail
          refine ⟨rfl, rfl, ⟨rfl, rfl, rfl, j + 1, aR', m + 1, cR', R ++ [x], S', P', by omega, ?_, HQ'⟩, ?_⟩
          · show Value.int .i64 _ = _
            go_num
          · show i - (intOf (Value.int .i64 _)).toNat < i - (intOf (F 5)).toNat
            rw [H5.out]
            simp [intOf]; omega
        | false =>
          obtain rfl := hbf rfl
          have hrow5 := hrow4
          rw [List.flatMap_append, ← s2] at hrow5
          obtain ⟨hrow6, hmc⟩ := own_drop hrow5 HFL.out
          obtain ⟨hb4, hf4p, hA4, hPf4⟩ := hPM4
          have HQ' : Hid (PO2 w b2 bp bP B2 aP n cP K aR' m cR' R S' P' (put W4 bp (prgE aP n cP aR' m cR' S'))) := by
            refine ⟨⟨by rw [blk_put, if_pos rfl, hb4]; rfl, by rw [free_put]; exact hf4p, hA4.mono (fun _ => by rw [blk_put, if_neg (Ne.symm HPP.out)]), fun h0 => by rw [free_put]; exact hPf4 h0⟩, HKin.out.trans hK', by rw [blk_put, if_neg h2p]; exact hz4, by rw [free_put]; exact hf4, HMR.out, ?_, HG.out, HS1.out, hS65, hm128, ?_, by rw [size_put]; exact hB4⟩
            · rw [← HMR.out]
              exact row_keep hrow6 (fun k hk => by rw [heap_put, if_neg (fun e => by have := (row_at hrow6 k hk).1; omega)])
            · exact (Side.put (D := fun k => k = bp) (Side.refl _ _) rfl _).extends hext4 (fun k hk => by rw [hk]; exact hwp)
          clear hK' hSd hbt hbf hnD hn2 hrow4 hrow5 hrow6 hz4 hf4 hext4 hB4 hAR r4 r5 s2 r3 hrb hA4 hPf4 HMR HG HS1
          go_wp2_with fail
          refine ⟨rfl, rfl, ⟨rfl, rfl, rfl, j + 1, aR', m, cR', R, S', P', by omega, ?_, HQ'⟩, ?_⟩
          · show Value.int .i64 _ = _
            go_num
          · show i - (intOf (Value.int .i64 _)).toNat < i - (intOf (F 5)).toNat
            rw [H5.out]
            simp [intOf]; omega
    · go_wp2_with fail
      refine ⟨rfl, rfl, ⟨rfl, rfl, rfl, j + 1, aR, m, cR, R, S, P, by omega, ?_, HQ⟩, ?_⟩
      · show Value.int .i64 _ = _
        go_num
      · show i - (intOf (Value.int .i64 _)).toNat < i - (intOf (F 5)).toNat
        rw [H5.out]
        simp [intOf]; omega
  obtain rfl : j = i := by omega
  obtain ⟨ra, rb, rc, r1, r2, r3, r4, r5, _⟩ := own_at GRule.length_enc hrow
  injection r1 with s1 s2 s3
  subst s1 s3
  have hAR : At GRule.enc 10 W rb 0 aR m R := by rw [hmR]; exact r5
  have hrb : m ≠ 0 → B2 ≤ rb := fun h0 => (r4 (by omega)).1
  have HRR : Hid (∀ r ∈ R, RRead w r) := fun r hr => by
    obtain ⟨p1, p2, p3, p4, p5, _⟩ := hgood r hr
    exact ⟨p1, p2, p3, p4, p5⟩
  have HPM3 : Hid (PM bp bP aP n cP aR m cR S P W) := hPM
  have HKin : Hid (Kin K P) := hKin
  have HG : Hid (∀ r ∈ R, RGood w n K r) := hgood
  have HS1 : Hid (R = [] ∨ 1 ≤ S) := hS1
  have HMR : Hid (m = R.length) := hmR
  have HROW : Hid (W.ownsRow B2 52 10 (.slice aR m cR) R.length (R.flatMap GRule.enc)) := hrow
  have HAR : Hid (At GRule.enc 10 W rb 0 aR m R) := hAR
  have HRB : Hid (m ≠ 0 → B2 ≤ rb) := hrb
  have HEX : Hid (w.Extends W ∧ blk W b2 = some (prgE none 0 0 none 0 0 0) ∧ free W b2 = true) := ⟨hext, hz2, hf2⟩
  clear r3 r4 r5 s2 hAR hrb hPM hKin hgood hS1 hmR hrow hext hz2 hf2 HQ hbPW hfP hBW
  go_wp2_with fail
  refine (verify_any W bp bP rb aP n cP aR m cR S P R HPM3.out HPP.out HAR.out (fun h0 => ⟨by have := HRB.out h0; omega, fun h1 => by have := HPB.out h1; have := HRB.out h0; omega⟩) (rd_of HEX.out.1 hwp hwP HRR.out) hn64 (by omega) (fun y hy => by
    obtain ⟨k, hk, rfl⟩ := List.mem_iff_getElem.1 hy
    obtain ⟨z, hz, e1, _⟩ := HKin.out.get (List.getElem?_eq_getElem hk)
    rw [← e1]; exact HK4.out z (List.mem_of_getElem? hz))).mono ?_
  rintro e W4 ⟨b, P', S', rfl, hPM4, hK', hSd, hbt, hbf, hb0⟩
  have hn2 : ¬ DS n bp bP b2 := fun hd => by
    rcases hd with h | h
    · exact h2p h
    · exact HP2.out h.1 h.2
  have h2lt := blk_lt HEX.out.2.1
  have hz4 : blk W4 b2 = some (prgE none 0 0 none 0 0 0) := (hSd.blk h2lt hn2).trans HEX.out.2.1
  have hf4 : free W4 b2 = true := (free_of_heap (hSd.block b2 h2lt hn2)).trans HEX.out.2.2
  have hext4 : w.Extends W4 := hSd.extends HEX.out.1 (fun k hk => by rcases hk with h | h; rw [h]; exact hwp; rw [h.2]; exact hwP)
  have hS' : 1 ≤ S' ∧ S' ≤ 65 := by
    cases b with
    | true => exact (hbt rfl).1
    | false =>
      rw [hbf rfl]
      rcases HS1.out with h | h
      · have := hb0 (by rw [HMR.out, h]; rfl)
        exact absurd this (by decide)
      · exact ⟨h, hS65⟩
  have hAR4 : At GRule.enc 10 W4 rb 0 aR m R := HAR.out.mono (fun h0 => by
    obtain ⟨_, C, h1, _⟩ := HAR.out.2 h0
    exact hSd.blk (blk_lt h1) (fun hd => by
      have h3 := HRB.out h0
      rcases hd with h | h
      · omega
      · have := HPB.out h.1; omega))
  obtain ⟨hb4, hf4p, hA4, hPf4⟩ := hPM4
  have hKK : Kin K P' := HKin.out.trans hK'
  have HF : Hid (ProgPost w (.returned (.agg (prgE aP n cP aR m cR S').toArray)) (put W4 b2 (prgE aP n cP aR m cR S'))) := by
    refine ⟨bP, rb, aP, n, cP, aR, m, cR, S', P', R, rfl, ?_, hA4.mono (fun h0 => by rw [blk_put, if_neg (Ne.symm (HP2.out h0))]), fun h0 => ⟨by rw [free_put]; exact hPf4 h0, hwP⟩, hAR4.mono (fun h0 => by rw [blk_put, if_neg (fun e => by have := HRB.out h0; omega)]), fun h0 => ⟨by have := HRB.out h0; omega, fun h1 => by have := HPB.out h1; have := HRB.out h0; omega⟩, hn64, hm128, hS'.1, hS'.2, ?_, fun r hr => ?_⟩
    · exact (Side.put (D := fun k => k = b2) (Side.refl _ _) rfl _).extends hext4 (fun k hk => by rw [hk]; exact hw2)
    · intro y hy
      obtain ⟨k, hk, rfl⟩ := List.mem_iff_getElem.1 hy
      obtain ⟨z, hz, e1, _⟩ := hKK.get (List.getElem?_eq_getElem hk)
      rw [← e1]; exact HK4.out z (List.mem_of_getElem? hz)
    · obtain ⟨p1, p2, p3, p4, p5, p6⟩ := HG.out r hr
      exact ⟨p1, p2, p3, p4, p5, p6.kin hKK⟩
  clear hSd hbt hbf hb0 hext4 hS' hAR4 hA4 hPf4 hKK hK'
  go_wp2_with fail
  refine ret_cell (C := prgE aP n cP aR m cR S') rfl rfl ?_ (by kernel_rfl) (by rw [prg_len]; kernel_rfl) rfl HF.out
  rw [blk_put, if_pos rfl, hz4]
  rfl
end Go.Proofs.Qxb6500788a
