import Derived.Test.Qxb6500788aJu
import Derived.StillTailTactics
import Derived.Deep.QuietTactic
import Derived.BigQuiet
import Derived.Deep.RegionHeld
import Derived.Deep.CutRange
import Derived.Laws.ResultCell
import Derived.Laws.Rows
import Derived.DeepKeys
import Derived.DataBytes
import Derived.Laws.StructEq
import Derived.Laws.AppendOwn
import Derived.Laws.MakeOwn
set_option linter.unusedSimpArgs false
set_option linter.unusedVariables false
namespace Go.Proofs.Qxb6500788a
open Go.RowKit Go.Blk
attribute [local go_sem ↓] execOp_load execOp_store execOp_alloc
attribute [local go_sem] Try.ld24 Try.st24 Try.ld25 Try.st25 Try.ld3 Try.st3 Try.ld30 Try.st30 Try.ld36 Try.st36 Try.ld4 Try.st4 Try.ld41 Try.st41 Try.ld50 Try.st50 Try.ld40 Try.st40 Try.ld42 Try.st42 Try.ld89 Try.st89 Try.ld91 Try.st91 Try.ld56 Try.st56 Try.ld97 Try.st97 Try.ld98 Try.st98 Try.ld101 Try.st101 Try.ld104 Try.st104 Try.ld57 Try.st57 Try.ld130 Try.st130 Try.ld2 Try.st2 Try.ld5 Try.st5 Try.ld9 Try.st9 Try.ld12 Try.st12 Try.ld21 Try.st21 Try.ld22 Try.st22 Try.ld29 Try.st29 Try.ld33 Try.st33 Try.ld59 Try.st59 Try.ld62 Try.st62 Try.ld69 Try.st69 Try.ld94 Try.st94 Try.ld96 Try.st96 Try.ld129 Try.st129 Try.ld158 Try.st158 Try.ld162 Try.st162 Try.ld47 Try.st47 Try.ld44 Try.st44 Try.ld137 Try.st137 Try.ld145 Try.st145 Try.ld43 Try.st43 Try.ld27 Try.st27 Try.ld38 Try.st38 Try.ld46 Try.st46 Try.ld49 Try.st49 Try.ld52 Try.st52 Try.ld54 Try.st54 Try.ld61 Try.st61 Try.ld80 Try.st80 Try.ld87 Try.st87 Try.ld93 Try.st93 Try.ld100 Try.st100 Try.ld103 Try.st103 Try.ld106 Try.st106 Try.ld109 Try.st109 Try.ld132 Try.st132 Try.ld147 Try.st147 Try.al47 Try.al44 Try.al137 Try.al145 Try.al43 Try.al27 Try.al38 Try.al46 Try.al49 Try.al52 Try.al54 Try.al61 Try.al80 Try.al87 Try.al93 Try.al100 Try.al103 Try.al106 Try.al109 Try.al132 Try.al147
attribute [local go_sem] GProgram.length_enc GProgram.ok_enc GProgram.all_get GProgram.all_set GProgram.preds_get GProgram.preds_set GProgram.rules_get GProgram.rules_set GProgram.strata_get GProgram.strata_set Answer.length_enc Answer.ok_enc Answer.all_get Answer.all_set Answer.code_get Answer.code_set Answer.n_get Answer.n_set Answer.rows_get Answer.rows_set Term.length_enc Term.ok_enc Term.all_get Term.all_set Term.var_get Term.var_set Term.n_get Term.n_set Atom.length_enc Atom.ok_enc Atom.all_get Atom.all_set Atom.pred_get Atom.pred_set Atom.args_get Atom.args_set GRule.length_enc GRule.ok_enc GRule.all_get GRule.all_set GRule.head_get GRule.head_set GRule.body_get GRule.body_set GRule.head_pred_get GRule.head_pred_set GRule.head_args_get GRule.head_args_set GOp.length_enc GOp.ok_enc GOp.all_get GOp.all_set GOp.kind_get GOp.kind_set GOp.pred_get GOp.pred_set GOp.t_get GOp.t_set GOp.n_get GOp.n_set GOp.base_get GOp.base_set GOp.rule_get GOp.rule_set GOp.rule_head_get GOp.rule_head_set GOp.rule_body_get GOp.rule_body_set GOp.rule_head_pred_get GOp.rule_head_pred_set GOp.rule_head_args_get GOp.rule_head_args_set PredInfo.length_enc PredInfo.ok_enc PredInfo.all_get PredInfo.all_set PredInfo.arity_get PredInfo.arity_set PredInfo.base_get PredInfo.base_set PredInfo.stratum_get PredInfo.stratum_set GStats.length_enc GStats.ok_enc GStats.all_get GStats.all_set GStats.rounds_get GStats.rounds_set GStats.fired_get GStats.fired_set GStats.emitted_get GStats.emitted_set GStats.fresh_get GStats.fresh_set Literal.length_enc Literal.ok_enc Literal.all_get Literal.all_set Literal.neg_get Literal.neg_set Literal.atom_get Literal.atom_set Literal.atom_pred_get Literal.atom_pred_set Literal.atom_args_get Literal.atom_args_set Engine.length_enc Engine.ok_enc Engine.all_get Engine.all_set Engine.prog_get Engine.prog_set Engine.st_get Engine.st_set Engine.levels_get Engine.levels_set Engine.running_get Engine.running_set Engine.stratum_get Engine.stratum_set Engine.round_get Engine.round_set Engine.saved_get Engine.saved_set Engine.stats_get Engine.stats_set Engine.prog_preds_get Engine.prog_preds_set Engine.prog_rules_get Engine.prog_rules_set Engine.prog_strata_get Engine.prog_strata_set Engine.stats_rounds_get Engine.stats_rounds_set Engine.stats_fired_get Engine.stats_fired_set Engine.stats_emitted_get Engine.stats_emitted_set Engine.stats_fresh_get Engine.stats_fresh_set Level.length_enc Level.ok_enc Level.all_get Level.all_set Level.heads_get Level.heads_set Level.jobs_get Level.jobs_set Plan.length_enc Plan.ok_enc Plan.all_get Plan.all_set Plan.rule_get Plan.rule_set Plan.delta_get Plan.delta_set Plan.src_get Plan.src_set Job.length_enc Job.ok_enc Job.all_get Job.all_set Job.full_get Job.full_set Job.deltas_get Job.deltas_set Job.full_rule_get Job.full_rule_set Job.full_delta_get Job.full_delta_set Job.full_src_get Job.full_src_set GState.length_enc GState.ok_enc GState.all_get GState.all_set GState.prog_get GState.prog_set GState.base_get GState.base_set GState.shown_get GState.shown_set GState.prog_preds_get GState.prog_preds_set GState.prog_rules_get GState.prog_rules_set GState.prog_strata_get GState.prog_strata_set Store.length_enc Store.ok_enc Store.all_get Store.all_set Store.arity_get Store.arity_set Store.rows_get Store.rows_set Env.length_enc Env.ok_enc Env.all_get Env.all_set Env.val_get Env.val_set Env.set_get Env.set_set
attribute [local go_sem] size_put size_ext blk_put free_put blk_alloc free_alloc blk_drew free_drew blk_ext free_ext lookOr_some putOr_some segAt_some cellAt_some storeIn_some put_put put_alloc_new length_arr ok_arr_u8 ok_arr_u32 ok_arr_u64 ok_arr_i64 ok_arr_sl cellsV_agg cellsV_int cellsV_bool cellsV_string cellsV_pointer cellsV_slice cellsV_sl ok_int ok_bool ok_string ok_pointer ok_slice ok_sl toList_arr seg_arr set_arr nth_splice nth_splice0 seg_splice seg_splice0 splice_splice splice_splice0 length_splice_if
attribute [local go_sem ↓] execOp_box
attribute [local go_sem] box_run nth_arr_u8 put_arr_u8 blk_drewN free_drewN put_drewN blk_raw free_raw
/-- A run of law 4 under way, the naive lists beside it. -/
def Run4 (p : Pg) (W3 : World) (be : Nat) (S : List (List Tup)) (da : Option Addr) (D : Nat) (dom : List Int) (ra : Option Addr) (T : Nat → List Tup) (s R m : Nat) (V : World) : Prop := ∃ (rn : Nat) (σ : StQ) (K : World), ER p W3 be S s rn σ K V ∧ RelR K ra p.P.length T ∧ Rw encI 1 K da D dom ∧ RelI p T ∧ DomC p dom T ∧ Mt p σ.1 T ∧ DE p s rn σ.1 ∧ SR p R σ ∧ R ≤ s + tot σ.1 p.P.length ∧ m = (p.St - s) + (32768 - tot σ.1 p.P.length)
def St4 (p : Pg) (W3 : World) (be : Nat) (S : List (List Tup)) (da : Option Addr) (D : Nat) (dom : List Int) (ra : Option Addr) (T : Nat → List Tup) (s R m : Nat) (V : World) : Prop := (s < p.St ∧ Run4 p W3 be S da D dom ra T s R m V) ∨ (s = p.St ∧ m = 0 ∧ ∃ S', E1 p W3 be S' V)
def lb4I (p : Pg) (W5 : World) (a : Option Addr) (len cap b3 be i bo : Nat) (S : List (List Tup)) (f : Nat → Value) (V : World) : Prop := f 0 = .slice a len cap ∧ f 3 = .pointer (some ⟨b3, 0, none⟩) ∧ f 4 = .pointer (some ⟨be, 0, none⟩) ∧ f 6 = .int .i64 (i : Nat) ∧ f 7 = .slice (some ⟨bo, 0, none⟩) p.P.length p.P.length ∧ ∃ q : Nat, q ≤ p.P.length ∧ f 8 = .int .i64 (q : Nat) ∧ Hid (NlI W5 bo p.P.length (cutT p S q) V)
def lc4I (p : Pg) (W3 : World) (a : Option Addr) (len cap b3 be i : Nat) (S : List (List Tup)) (da : Option Addr) (D dc : Nat) (dom : List Int) (m : Nat) (f : Nat → Value) (V : World) : Prop := f 0 = .slice a len cap ∧ f 3 = .pointer (some ⟨b3, 0, none⟩) ∧ f 4 = .pointer (some ⟨be, 0, none⟩) ∧ f 6 = .int .i64 (i : Nat) ∧ f 9 = .slice da D dc ∧ ∃ (s R : Nat) (ra : Option Addr) (rc : Nat) (T : Nat → List Tup), s ≤ p.St ∧ f 7 = .slice ra p.P.length rc ∧ f 10 = .int .i64 (R : Nat) ∧ f 11 = .int .i64 (s : Nat) ∧ Hid (St4 p W3 be S da D dom ra T s R m V)
def le4I (p : Pg) (W9 : World) (a : Option Addr) (len cap b3 be i : Nat) (da : Option Addr) (D dc s R1 : Nat) (na : Option Addr) (nc : Nat) (ra : Option Addr) (rc : Nat) (pr : Int) (f : Nat → Value) (V : World) : Prop := f 0 = .slice a len cap ∧ f 3 = .pointer (some ⟨b3, 0, none⟩) ∧ f 4 = .pointer (some ⟨be, 0, none⟩) ∧ f 6 = .int .i64 (i : Nat) ∧ f 7 = .slice na p.P.length nc ∧ f 9 = .slice da D dc ∧ f 10 = .int .i64 (R1 : Nat) ∧ f 11 = .int .i64 (s : Nat) ∧ f 12 = .slice ra p.P.length rc ∧ f 13 = .int .i64 pr ∧ ∃ q : Nat, q ≤ p.P.length ∧ f 15 = .int .i64 (q : Nat) ∧ Hid (W9.Extends V)
/-- How a round that was not given up leaves the engine. -/
def C3 (p : Pg) (W3 : World) (be : Nat) (S : List (List Tup)) (s rn : Nat) (σ' : StQ) (K : World) (pr : Int) (V : World) : Prop :=
  (pr = 1 ∧ anyN σ'.1 (headsOf p s) = true ∧ ER p W3 be S s (rn + 1) (promL σ'.1 (headsOf p s), qR σ'.2) K V) ∨
  (pr = 2 ∧ anyN σ'.1 (headsOf p s) = false ∧ s + 1 < p.St ∧ ER p W3 be S (s + 1) 0 (promL σ'.1 (headsOf p s), qR σ'.2) K V) ∨
  (pr = 3 ∧ anyN σ'.1 (headsOf p s) = false ∧ ¬ s + 1 < p.St ∧ E1q p W3 be (promL σ'.1 (headsOf p s)) (qR σ'.2) K V)
theorem C3.ext {p : Pg} {W3 : World} {be : Nat} {S : List (List Tup)} {s rn : Nat} {σ' : StQ} {K : World} {pr : Int} {V V' : World} (h : C3 p W3 be S s rn σ' K pr V) (he : V.Extends V') : C3 p W3 be S s rn σ' K pr V' := by
  rcases h with ⟨h1, h2, h3⟩ | ⟨h1, h2, h3, h4⟩ | ⟨h1, h2, h3, h4⟩
  · exact .inl ⟨h1, h2, h3.ext he⟩
  · exact .inr (.inl ⟨h1, h2, h3, h4.ext he⟩)
  · exact .inr (.inr ⟨h1, h2, h3, h4.ext he⟩)
theorem C3.ey {p : Pg} {W3 : World} {be : Nat} {S : List (List Tup)} {s rn : Nat} {σ' : StQ} {K : World} {pr : Int} {V : World} (h : C3 p W3 be S s rn σ' K pr V) : EY p W3 be (promL σ'.1 (headsOf p s)) K V := by
  rcases h with ⟨h1, h2, h3⟩ | ⟨h1, h2, h3, h4⟩ | ⟨h1, h2, h3, h4⟩
  · exact h3.ey
  · exact h4.ey
  · exact h4.ey
theorem er_c3 {p : Pg} {W3 : World} {be : Nat} {S : List (List Tup)} {s rn : Nat} {σ : StQ} {K : World} {e : Ending} {V : World} (h : ERPost p W3 be S s rn σ K e V) : (jobsO p s rn σ = none ∧ e = .returned (.tuple #[.int .i64 0, .int .i64 3]) ∧ E1K p W3 be S K V) ∨ ∃ σ' pr, jobsO p s rn σ = some σ' ∧ e = .returned (.tuple #[.int .i64 pr, .int .i64 0]) ∧ C3 p W3 be S s rn σ' K pr V := by
  rcases h with h | ⟨σ', hj, ⟨h1, h2, h3⟩ | ⟨h1, h2, h3, h4⟩ | ⟨h1, h2, h3, h4⟩⟩
  · exact .inl h
  · exact .inr ⟨σ', 1, hj, h2, .inl ⟨rfl, h1, h3⟩⟩
  · exact .inr ⟨σ', 2, hj, h3, .inr (.inl ⟨rfl, h1, h2, h4⟩)⟩
  · exact .inr ⟨σ', 3, hj, h3, .inr (.inr ⟨rfl, h1, h2, h4⟩)⟩
theorem cut_zero {p : Pg} {S : List (List Tup)} : ∀ q, cutT p S 0 q = allT S q := fun q => by
  unfold cutT
  rw [if_neg (by omega)]
theorem cut_base {p : Pg} {S : List (List Tup)} {i : Nat} (hb : basP p i = true) : ∀ q, cutT p S (i + 1) q = cutT p S i q := fun q => by
  unfold cutT
  by_cases h : q < i ∧ basP p q = false
  · rw [if_pos h, if_pos ⟨by omega, h.2⟩]
  · rw [if_neg h, if_neg (fun h' => h ⟨by
      have := h'.1
      by_cases hqi : q = i
      · subst hqi; rw [hb] at h'; cases h'.2
      · omega, h'.2⟩)]
theorem cut_der {p : Pg} {S : List (List Tup)} {i : Nat} (hb : basP p i = false) : ∀ q, cutT p S (i + 1) q = if q = i then [] else cutT p S i q := fun q => by
  unfold cutT
  by_cases hq : q = i
  · subst hq
    rw [if_pos rfl, if_pos ⟨by omega, hb⟩]
  · rw [if_neg hq]
    by_cases h : q < i ∧ basP p q = false
    · rw [if_pos h, if_pos ⟨by omega, h.2⟩]
    · rw [if_neg h, if_neg (fun h' => h ⟨by omega, h'.2⟩)]
theorem cut_relI {p : Pg} {S : List (List Tup)} (h : EngI p S) (i : Nat) : RelI p (cutT p S i) := fun q hq => by
  unfold cutT
  split
  · exact outOk_nil
  · exact allT_relI h q hq
theorem cut_mt {p : Pg} {S : List (List Tup)} (hS : EngI p S) : Mt p (begS p S p.P.length) (cutT p S p.P.length) := fun q hq t => by
  rw [begS_rows hS.1.1.1 (r := 3 * q) (q := q) (j := 0) rfl (by omega) _ (Nat.le_refl _)]
  unfold cutT
  by_cases h : q < p.P.length ∧ basP p q = false
  · rw [if_pos ⟨h.1, rfl, h.2⟩, if_pos h]
  · rw [if_neg (fun h' => h ⟨h'.1, h'.2.2⟩), if_neg h]
set_option maxRecDepth 100000 in
theorem frame231 (f : Nat → Value) : frameN 231 f = #[f 0, f 1, f 2, f 3, f 4, f 5, f 6, f 7, f 8, f 9, f 10, f 11, f 12, f 13, f 14, f 15, f 16, f 17, f 18, f 19, f 20, f 21, f 22, f 23, f 24, f 25, f 26, f 27, f 28, f 29, f 30, f 31, f 32, f 33, f 34, f 35, f 36, f 37, f 38, f 39, f 40, f 41, f 42, f 43, f 44, f 45, f 46, f 47, f 48, f 49, f 50, f 51, f 52, f 53, f 54, f 55, f 56, f 57, f 58, f 59, f 60, f 61, f 62, f 63, f 64, f 65, f 66, f 67, f 68, f 69, f 70, f 71, f 72, f 73, f 74, f 75, f 76, f 77, f 78, f 79, f 80, f 81, f 82, f 83, f 84, f 85, f 86, f 87, f 88, f 89, f 90, f 91, f 92, f 93, f 94, f 95, f 96, f 97, f 98, f 99, f 100, f 101, f 102, f 103, f 104, f 105, f 106, f 107, f 108, f 109, f 110, f 111, f 112, f 113, f 114, f 115, f 116, f 117, f 118, f 119, f 120, f 121, f 122, f 123, f 124, f 125, f 126, f 127, f 128, f 129, f 130, f 131, f 132, f 133, f 134, f 135, f 136, f 137, f 138, f 139, f 140, f 141, f 142, f 143, f 144, f 145, f 146, f 147, f 148, f 149, f 150, f 151, f 152, f 153, f 154, f 155, f 156, f 157, f 158, f 159, f 160, f 161, f 162, f 163, f 164, f 165, f 166, f 167, f 168, f 169, f 170, f 171, f 172, f 173, f 174, f 175, f 176, f 177, f 178, f 179, f 180, f 181, f 182, f 183, f 184, f 185, f 186, f 187, f 188, f 189, f 190, f 191, f 192, f 193, f 194, f 195, f 196, f 197, f 198, f 199, f 200, f 201, f 202, f 203, f 204, f 205, f 206, f 207, f 208, f 209, f 210, f 211, f 212, f 213, f 214, f 215, f 216, f 217, f 218, f 219, f 220, f 221, f 222, f 223, f 224, f 225, f 226, f 227, f 228, f 229, f 230] := by kernel_rfl
set_option maxRecDepth 20000 in
set_option maxHeartbeats 8000000 in
theorem rounds_walk (w : World) (a : Option Addr) (len cap : Nat) (g : Nat → GOp) (dt : Nat → List Literal) (hS : ScriptAt w a len cap g dt) :
    Calls Try.prog 4 #[.slice a len cap] w fun e w' => e = .returned (.bool true) ∧ w.Extends w' := by
  obtain ⟨Q, hQ⟩ : ∃ Q, Q = (fun e w' => e = .returned (.bool true) ∧ w.Extends w' : Ending → World → Prop) := ⟨_, rfl⟩
  rw [← hQ]
  have HQ := hid_of hQ
  have HS := hid_of hS
  have hsm := small_any w a len cap g dt hS
  have HSM := hid_of hsm
  clear hQ hS hsm
  go_enter Try.func4, Try.ntmps4
  go_wp2_with fail
  refine HSM.out.mono ?_
  rintro e W ⟨⟨r, rfl, hr⟩, rfl⟩
  clear HSM
  dsimp only
  cases r with
  | false =>
    have HP : Hid (Q (.returned (.bool true)) W) := by
      show Q _ _
      rw [HQ.out]; exact ⟨rfl, ext_Ext (Ext.refl _)⟩
    go_wp2_with fail
    try go_ret
    exact HP.out
  | true =>
  obtain ⟨hlen, -⟩ := hr rfl
  have hpo := programOf_x W a len cap g dt HS.out hlen
  have HPO := hid_of hpo
  clear hpo hr
  go_wp2_with fail
  refine HPO.out.mono ?_
  intro e W2 hpx
  obtain ⟨x0, p, rfl, hx2, hprg, hok⟩ := progX_ok hpx
  clear HPO hpx
  dsimp only
  have g0l := GProgram.length_enc x0
  go_upto_region 4 with fail
  refine wp_world (fun V => blk V W2.heap.size = some x0.enc ∧ W2.Extends V) ⟨?_, ?_⟩ ?_
  · first | (rw [blk_put, if_pos rfl, blk_alloc, if_pos rfl]; rfl) | (rw [blk_alloc, if_pos rfl])
  · first | exact extends_put (extends_alloc (ext_Ext (Ext.refl _)) _) (Nat.le_refl _) _ | exact extends_alloc (ext_Ext (Ext.refl _)) _
  rintro W3 ⟨hb3, hx3⟩
  obtain ⟨b3, e3⟩ : ∃ b3, b3 = W2.heap.size := ⟨_, rfl⟩
  rw [← e3] at hb3 ⊢
  have hprg3 := hprg.ext hx3
  have HPRG := hid_of hprg3
  have HOK := hid_of hok
  have HXW := hid_of (hx2.trans hx3)
  have HB3 := hid_of hb3
  have hpl := hprg3.1
  have HPL := hid_of hpl
  have h64 := hok.nP
  have hx0 : nth x0.enc 0 = some (.slice x0.preds.a p.P.length x0.preds.cap) := by rw [← hpl]; exact GProgram.preds_get x0
  have hnw := new_x W3 (fun _ => .no) 0 p x0 (hprg3.sub (core_no W3)) hok (fun k _ => ⟨(by rintro ⟨m, e⟩; cases e), (by rintro ⟨m, e⟩; cases e)⟩)
  have HNW := hid_of hnw
  clear e3 hx3 hx2 hprg hprg3 hok hpl hnw
  go_wp2_with fail
  refine HNW.out.mono ?_
  rintro e V1 ⟨be, O1, x1, rfl, hx1, ho1, hE1, hr1⟩
  have HI0 : Hid (∃ S, E1 p W3 be S V1) := by
    have hrow : ∀ r, rowsAt (List.replicate (3 * p.P.length) ([] : List Tup)) r = [] := fun r => by
      unfold rowsAt
      rw [List.getD_eq_getElem?_getD, List.getElem?_replicate]
      by_cases hr : r < 3 * p.P.length
      · rw [if_pos hr]; rfl
      · rw [if_neg hr]; rfl
    refine ⟨_, O1, x1, _, hx1, ho1, hE1, hr1, ⟨⟨⟨by simp, fun L hL => ?_, fun q _ => hrow _⟩, fun q _ => hrow _⟩, fun q j _ _ t ht => by rw [hrow] at ht; cases ht⟩⟩
    rw [List.eq_of_mem_replicate hL]
    exact ⟨by simp, outOk_nil⟩
  clear HNW hx1 ho1 hE1 hr1 hb3
  dsimp only
  go_upto_region 6 with fail
  have hs65 := HOK.out.s2
  have hx2v : nth x0.enc 2 = some (.int .i64 (p.St : Int)) := by
    have : x0.strata = (p.St : Int) := HPRG.out.2.2.1
    rw [← this]; exact GProgram.strata_get x0
  refine wp_loop_f 231 (la7I p W3 a len cap b3 be) (fun f _ => len - (intOf (f 6)).toNat) rfl ⟨rfl, rfl, rfl, 0, by omega, rfl, HI0⟩ ?_
  clear HI0
  intro F V hrel
  obtain ⟨f0, f3, f4, i, hi, f6, HI⟩ := hrel
  have H6 := hid_of f6
  rw [frame231, f0, f3, f4, f6]
  clear f0 f3 f4 f6
  obtain ⟨S, hE⟩ := HI.out
  have hxV : W3.Extends V := hE.wx.1
  by_cases hin : i < len
  · have hin' : (i : Int) < (len : Int) := by omega
    obtain ⟨bs, o, C, rfl, hCW, hlC, hseg⟩ := (HS.out.mono HXW.out).2.2.2 (by omega)
    have hsg := hseg i hin
    have i0 : (0 : Int) ≤ (i : Int) := by omega
    have i2 : ((i : Int)).toNat = i := by omega
    have hil : (i + 1) * 18 ≤ len * 18 := Nat.mul_le_mul_right _ hin
    have l1 : o + i * 18 + 18 ≤ C.length := by omega
    have HCW := hid_of hCW
    have hC : blk V bs = some C := (hxV.blk (blk_lt hCW)).trans hCW
    have hk0 : nth C (o + i * 18) = some (.int .i64 (g i).kind) := nth_in (j := 0) hsg (GOp.kind_get (g i)) (by omega)
    have hk1 : nth C (o + i * 18 + 1) = some (.int .i64 (g i).pred) := nth_in (j := 1) hsg (GOp.pred_get (g i)) (by omega)
    have hk2 : seg C (o + i * 18 + 2) 4 = arr i64v (g i).t := by rw [seg_in (p := 2) (m := 4) hsg (by omega)]; exact GOp.t_get (g i)
    have l2 : o + i * 18 < C.length := by omega
    have l3 : o + i * 18 + 1 < C.length := by omega
    have l4 : o + i * 18 + 2 + 4 ≤ C.length := by omega
    clear hseg HI hil hCW
    by_cases hk : (g i).kind = 4
    · rw [hk] at hk0
      have hla := hE.lal HOK.out b3 x0 HB3.out HPL.out
      have HLA := hid_of hla
      have HE := hid_of hE
      clear hla hE hsg hxV
      go_wp2_with fail
      refine HLA.out.mono ?_
      rintro e V1 ⟨ba, hba, rfl, hla⟩
      have HI0 : Hid (NlI V ba p.P.length (cutT p S 0) V1) := (hla.nl hba).congr cut_zero
      clear HLA hla hba hC
      dsimp only
      go_upto_region 12 with fail
      refine wp_loop_f 231 (lb4I p V (some ⟨bs, o, none⟩) len cap b3 be i ba S) (fun f _ => p.P.length - (intOf (f 8)).toNat) rfl ⟨rfl, rfl, rfl, rfl, rfl, 0, by omega, rfl, HI0⟩ ?_
      clear HI0
      intro F1 V2 hrel
      obtain ⟨f0, f3, f4, f6, f7, q, hq, f8, HNL⟩ := hrel
      have H8 := hid_of f8
      rw [frame231, f0, f3, f4, f6, f7, f8]
      clear f0 f3 f4 f6 f7 f8
      have hx2 : W3.Extends V2 := HE.out.wx.1.trans HNL.out.1
      by_cases hqP : q < p.P.length
      · have hqP' : (q : Int) < (p.P.length : Int) := by omega
        obtain ⟨cP, Cb, CP, bP, e1, e2, e3, e4, e5, e6, -, -⟩ := pgb_str ((pgX_of HB3.out HPRG.out).ext hx2) hqP
        have q0 : (0 : Int) ≤ (q : Int) := by omega
        have q2 : ((q : Int)).toNat = q := by omega
        have c1 : q * 3 + 1 < CP.length := by omega
        have c0 : 0 < Cb.length := by omega
        clear hx2
        cases hb : basP p q with
        | true =>
          rw [hb] at e6
          have HI' : Hid (NlI V ba p.P.length (cutT p S (q + 1)) V2) := HNL.out.congr (cut_base hb)
          clear HNL
          go_wp2_with fail
          refine ⟨rfl, rfl, ⟨rfl, rfl, rfl, rfl, rfl, q + 1, by omega, ?_, HI'⟩, ?_⟩
          · show Value.int .i64 _ = _
            go_num
          · show p.P.length - (intOf (Value.int .i64 _)).toNat < p.P.length - (intOf (F1 8)).toNat
            rw [H8.out]
            simp [intOf]; omega
        | false =>
          rw [hb] at e6
          obtain ⟨Co, o1, o2, o3, o4, hI'⟩ := HNL.out.cut hqP (cut_der hb)
          have HI' := hid_of hI'
          clear hI' HNL
          go_wp2_with fail
          refine ⟨rfl, rfl, ⟨rfl, rfl, rfl, rfl, rfl, q + 1, by omega, ?_, HI'⟩, ?_⟩
          · show Value.int .i64 _ = _
            go_num
          · show p.P.length - (intOf (Value.int .i64 _)).toNat < p.P.length - (intOf (F1 8)).toNat
            rw [H8.out]
            simp [intOf]; omega
      · obtain rfl : q = p.P.length := by omega
        have hqP' : ¬ ((p.P.length : Int) < (p.P.length : Int)) := by omega
        obtain ⟨aP, cP, Cb, e1, e2, e3⟩ : ∃ (aP : Option Addr) (cP : Nat) (Cb : List Value), blk V2 b3 = some Cb ∧ 3 ≤ Cb.length ∧ nth Cb 0 = some (.slice aP p.P.length cP) := by
          obtain ⟨aP, cP, aR, cR, Cb, hb, hl, n0, -⟩ := (pgX_of HB3.out HPRG.out).ext hx2
          exact ⟨aP, cP, Cb, hb, hl, n0⟩
        have c0 : 0 < Cb.length := by omega
        have hrel2 := HNL.out.relN.sub (newc_sub _ _)
        have hdo := domain_any V2 b3 p ((pgX_of HB3.out HPRG.out).ext hx2) HOK.out (some ⟨ba, 0, none⟩) p.P.length (cutT p S p.P.length) hrel2 (cut_relI HE.out.wx.2 _)
        have HDO := hid_of hdo
        clear hdo hrel2 hx2
        go_wp2_with fail
        refine HDO.out.mono ?_
        rintro e V3 ⟨da, D, dc, dom, rfl, hx3, hdn, hdi, hdc, hdr⟩
        have hxV3 : V.Extends V3 := HNL.out.1.trans hx3
        have hEK : E1K p W3 be S (newc V.heap.size V3) V3 := HE.out.grow hxV3
        have hRK : RelR (newc V.heap.size V3) (some ⟨ba, 0, none⟩) p.P.length (cutT p S p.P.length) := HNL.out.relN.sub (newc_ext hx3)
        have hDK : Rw encI 1 (newc V.heap.size V3) da D dom := hdn.sub (newc_le HNL.out.1.size)
        have hbe := hEK.begin HOK.out
        have HBE := hid_of hbe
        have HRK := hid_of hRK
        have HDK := hid_of hDK
        have HDI := hid_of hdi
        have HDC := hid_of hdc
        have HDR := hid_of hdr
        have HSI := hid_of HE.out.wx.2
        clear HDO hx3 hdn hdi hdc hdr hxV3 hEK hRK hDK hbe HNL HE e1 e2 e3 c0 H8
        dsimp only
        go_wp2_with fail
        refine HBE.out.mono ?_
        rintro e V4 ⟨rfl, hER⟩
        obtain ⟨m0, hm0⟩ : ∃ m0, m0 = (p.St - 0) + (32768 - tot (begS p S p.P.length) p.P.length) := ⟨_, rfl⟩
        have HI0 : Hid (St4 p W3 be S da D dom (some ⟨ba, 0, none⟩) (cutT p S p.P.length) 0 0 m0 V4) := .inl ⟨hER.wx.2.2.2, _, _, _, hER, HRK.out, HDK.out, cut_relI HSI.out _, HDC.out, cut_mt HSI.out, HSI.out.beg.2, SR.beg HSI.out, Nat.zero_le _, hm0⟩
        clear HBE hER HRK HDK hm0 HDC
        dsimp only
        go_upto_region 21 with fail
        refine wp_loop_ix 231 (lc4I p W3 (some ⟨bs, o, none⟩) len cap b3 be i S da D dc dom) m0 rfl ⟨rfl, rfl, rfl, rfl, rfl, 0, 0, _, _, _, Nat.zero_le _, rfl, rfl, rfl, HI0⟩ ?_
        clear HI0
        intro m F2 V5 hrel μ hμ
        obtain ⟨f0, f3, f4, f6, f9, s, R, ra, rc, T, hsS, f7, f10, f11, HST⟩ := hrel
        rw [frame231, f0, f3, f4, f6, f7, f9, f10, f11]
        clear f0 f3 f4 f6 f7 f9 f10 f11
        rcases HST.out with ⟨hss, rn, σ, K, hER, hRK, hDK, hRI, hDC, hMt, hDE, hSR, hRt, hm⟩ | ⟨rfl, -, S', hE1⟩
        · obtain ⟨hxw, -, hRinv, -⟩ := hER.wx
          have hb3V : blk V5 b3 = some x0.enc := (hxw.blk (blk_lt HB3.out)).trans HB3.out
          have hss' : (s : Int) < (p.St : Int) := by omega
          have hRb : R ≤ 40000 := by
            have := tot_cap HOK.out hRinv.1.2.1
            omega
          have hru := hER.running
          have HRU := hid_of hru
          have hst := hER.stratum
          have HSTR := hid_of hst
          have hbu := hER.begin HOK.out
          have HBU := hid_of hbu
          have hC : blk V5 bs = some C := (hxw.blk (blk_lt HCW.out)).trans HCW.out
          have had := (hER.ext (extends_drew (ext_Ext (Ext.refl _)))).add HOK.out (g i).pred (g i).t
          have HAD := hid_of had
          have HRI := hid_of hRI
          have HDC := hid_of hDC
          have HMT := hid_of hMt
          have HDE := hid_of hDE
          have HSR := hid_of hSR
          have HRT := hid_of hRt
          have HM := hid_of hm
          have HRV := hid_of hRinv
          have HRK := hid_of hRK
          have HDK := hid_of hDK
          clear HST hER hru hst hbu had hRI hDC hMt hDE hSR hRt hm hRinv hRK hDK hxw
          go_wp2_with fail
          refine HRU.out.mono ?_
          rintro e V5' ⟨rfl, e9⟩
          replace e9 := e9.symm
          subst e9
          clear HRU
          dsimp only
          go_wp2_with fail
          refine HSTR.out.mono ?_
          rintro e V5' ⟨rfl, e9⟩
          replace e9 := e9.symm
          subst e9
          clear HSTR
          dsimp only
          go_wp2_with fail
          refine HBU.out.mono ?_
          rintro e V5' ⟨rfl, e9⟩
          replace e9 := e9.symm
          subst e9
          clear HBU
          dsimp only
          go_upto_region 24 with fail
          refine wp_region_held_drew (S := fun W' => blk W' bs = some C) (by kernel_rfl) hC (fun hHeld => ?_)
          refine wpAnyH_take (i := 0) (oi := ⟨_, _, _, _, _, _⟩) (v := ?_) rfl (by kernel_rfl) (by kernel_rfl) (by kernel_rfl) (fun _ _ _ h => h) (Or.inl ⟨by rfl, ?_⟩) (by assumption) ?_
          rotate_left 1
          · intro W' hSw
            go_simp
            try with_reducible rfl
          try simp only [Act.put, List.setIfInBounds_toArray, List.set_cons_zero, List.set_cons_succ]
          refine wpAnyH_take (i := 1) (oi := ⟨_, _, _, _, _, _⟩) (v := ?_) rfl (by kernel_rfl) (by kernel_rfl) (by kernel_rfl) (fun _ _ _ h => h) (Or.inl ⟨by rfl, ?_⟩) (by assumption) ?_
          rotate_left 1
          · intro W' hSw
            go_simp
            try with_reducible rfl
          try simp only [Act.put, List.setIfInBounds_toArray, List.set_cons_zero, List.set_cons_succ]
          refine wpAnyH_take (i := 2) (oi := ⟨_, _, _, _, _, _⟩) (v := ?_) rfl (by kernel_rfl) (by kernel_rfl) (by kernel_rfl) (fun _ _ _ h => h) (Or.inl ⟨by rfl, ?_⟩) (by assumption) ?_
          rotate_left 1
          · intro W' hSw
            go_simp
            try with_reducible rfl
          try simp only [Act.put, List.setIfInBounds_toArray, List.set_cons_zero, List.set_cons_succ]
          refine wpAnyH_take (i := 3) (oi := ⟨_, _, _, _, _, _⟩) (v := ?_) rfl (by kernel_rfl) (by kernel_rfl) (by kernel_rfl) (fun _ _ _ h => h) (Or.inl ⟨by rfl, ?_⟩) (by assumption) ?_
          rotate_left 1
          · intro W' hSw
            go_simp
            try with_reducible rfl
          try simp only [Act.put, List.setIfInBounds_toArray, List.set_cons_zero, List.set_cons_succ]
          refine wpAnyH_take (i := 4) (oi := ⟨_, _, _, _, _, _⟩) (v := ?_) rfl (by kernel_rfl) (by kernel_rfl) (by kernel_rfl) (fun _ _ _ h => h) (Or.inl ⟨by rfl, ?_⟩) (by assumption) ?_
          rotate_left 1
          · intro W' hSw
            go_simp
            try with_reducible rfl
          try simp only [Act.put, List.setIfInBounds_toArray, List.set_cons_zero, List.set_cons_succ]
          refine wpAnyH_take (i := 5) (oi := ⟨_, _, _, _, _, _⟩) (v := ?_) rfl (by kernel_rfl) (by kernel_rfl) (by kernel_rfl) (fun _ _ _ h => h) (Or.inl ⟨by rfl, ?_⟩) (by assumption) ?_
          rotate_left 1
          · intro W' hSw
            go_simp
            try with_reducible rfl
          try simp only [Act.put, List.setIfInBounds_toArray, List.set_cons_zero, List.set_cons_succ]
          refine wpAnyH_take (i := 6) (oi := ⟨_, _, _, _, _, _⟩) (v := ?_) rfl (by kernel_rfl) (by kernel_rfl) (by kernel_rfl) (fun _ _ _ h => h) (Or.inl ⟨by rfl, ?_⟩) (by assumption) ?_
          rotate_left 1
          · intro W' hSw
            go_simp
            try with_reducible rfl
          try simp only [Act.put, List.setIfInBounds_toArray, List.set_cons_zero, List.set_cons_succ]
          refine wpAnyH_take (i := 7) (oi := ⟨_, _, _, _, _, _⟩) (v := ?_) rfl (by kernel_rfl) (by kernel_rfl) (by kernel_rfl) (fun _ _ _ h => h) (Or.inl ⟨by rfl, ?_⟩) (by assumption) ?_
          rotate_left 1
          · intro W' hSw
            go_simp
            try with_reducible rfl
          try simp only [Act.put, List.setIfInBounds_toArray, List.set_cons_zero, List.set_cons_succ]
          refine wpAnyH_take (i := 8) (oi := ⟨_, _, _, _, _, _⟩) (v := ?_) rfl (by kernel_rfl) (by kernel_rfl) (by kernel_rfl) (fun _ _ _ h => h) (Or.inl ⟨by rfl, ?_⟩) (by assumption) ?_
          rotate_left 1
          · intro W' hSw
            go_simp
            try with_reducible rfl
          try simp only [Act.put, List.setIfInBounds_toArray, List.set_cons_zero, List.set_cons_succ]
          refine wpAnyH_take (i := 9) (oi := ⟨_, _, _, _, _, _⟩) (v := ?_) rfl (by kernel_rfl) (by kernel_rfl) (by kernel_rfl) (fun _ _ _ h => h) (Or.inl ⟨by rfl, ?_⟩) (by assumption) ?_
          rotate_left 1
          · intro W' hSw
            go_simp
            try with_reducible rfl
          try simp only [Act.put, List.setIfInBounds_toArray, List.set_cons_zero, List.set_cons_succ]
          refine wpAnyH_take (i := 10) (oi := ⟨_, _, _, _, _, _⟩) (v := ?_) rfl (by kernel_rfl) (by kernel_rfl) (by kernel_rfl) (fun _ _ _ h => h) (Or.inl ⟨by rfl, ?_⟩) (by assumption) ?_
          rotate_left 1
          · intro W' hSw
            go_simp
            try with_reducible rfl
          try simp only [Act.put, List.setIfInBounds_toArray, List.set_cons_zero, List.set_cons_succ]
          refine wpAnyH_ready (rs := [11]) (by kernel_rfl) (by simp) ?_
          refine AllReadyH.cons (o := ⟨_, _, _, _, _, _⟩) rfl (fun K' hK => ?_) AllReadyH.nil
          go_simp
          refine HAD.out.mono ?_
          rintro en V5b ⟨rfl, hER5⟩
          have hC5 : blk V5b bs = some C := (hER5.wx.1.blk (blk_lt HCW.out)).trans HCW.out
          have hdr5 := hER5.drop HOK.out (g i).pred (g i).t
          have HDR5 := hid_of hdr5
          clear HAD hER5 hdr5
          dsimp only
          refine hK.out _ _ hC5 (fun hHeld => ?_)
          clear hK K'
          try simp only [Act.put, List.setIfInBounds_toArray, List.set_cons_zero, List.set_cons_succ]
          refine wpAnyH_take (i := 12) (oi := ⟨_, _, _, _, _, _⟩) (v := ?_) rfl (by kernel_rfl) (by kernel_rfl) (by kernel_rfl) (fun _ _ _ h => h) (Or.inl ⟨by rfl, ?_⟩) (by assumption) ?_
          rotate_left 1
          · intro W' hSw
            go_simp
            try with_reducible rfl
          try simp only [Act.put, List.setIfInBounds_toArray, List.set_cons_zero, List.set_cons_succ]
          refine wpAnyH_take (i := 13) (oi := ⟨_, _, _, _, _, _⟩) (v := ?_) rfl (by kernel_rfl) (by kernel_rfl) (by kernel_rfl) (fun _ _ _ h => h) (Or.inl ⟨by rfl, ?_⟩) (by assumption) ?_
          rotate_left 1
          · intro W' hSw
            go_simp
            try with_reducible rfl
          try simp only [Act.put, List.setIfInBounds_toArray, List.set_cons_zero, List.set_cons_succ]
          refine wpAnyH_take (i := 14) (oi := ⟨_, _, _, _, _, _⟩) (v := ?_) rfl (by kernel_rfl) (by kernel_rfl) (by kernel_rfl) (fun _ _ _ h => h) (Or.inl ⟨by rfl, ?_⟩) (by assumption) ?_
          rotate_left 1
          · intro W' hSw
            go_simp
            try with_reducible rfl
          try simp only [Act.put, List.setIfInBounds_toArray, List.set_cons_zero, List.set_cons_succ]
          refine wpAnyH_take (i := 15) (oi := ⟨_, _, _, _, _, _⟩) (v := ?_) rfl (by kernel_rfl) (by kernel_rfl) (by kernel_rfl) (fun _ _ _ h => h) (Or.inl ⟨by rfl, ?_⟩) (by assumption) ?_
          rotate_left 1
          · intro W' hSw
            go_simp
            try with_reducible rfl
          try simp only [Act.put, List.setIfInBounds_toArray, List.set_cons_zero, List.set_cons_succ]
          refine wpAnyH_take (i := 16) (oi := ⟨_, _, _, _, _, _⟩) (v := ?_) rfl (by kernel_rfl) (by kernel_rfl) (by kernel_rfl) (fun _ _ _ h => h) (Or.inl ⟨by rfl, ?_⟩) (by assumption) ?_
          rotate_left 1
          · intro W' hSw
            go_simp
            try with_reducible rfl
          try simp only [Act.put, List.setIfInBounds_toArray, List.set_cons_zero, List.set_cons_succ]
          refine wpAnyH_take (i := 17) (oi := ⟨_, _, _, _, _, _⟩) (v := ?_) rfl (by kernel_rfl) (by kernel_rfl) (by kernel_rfl) (fun _ _ _ h => h) (Or.inl ⟨by rfl, ?_⟩) (by assumption) ?_
          rotate_left 1
          · intro W' hSw
            go_simp
            try with_reducible rfl
          try simp only [Act.put, List.setIfInBounds_toArray, List.set_cons_zero, List.set_cons_succ]
          refine wpAnyH_take (i := 18) (oi := ⟨_, _, _, _, _, _⟩) (v := ?_) rfl (by kernel_rfl) (by kernel_rfl) (by kernel_rfl) (fun _ _ _ h => h) (Or.inl ⟨by rfl, ?_⟩) (by assumption) ?_
          rotate_left 1
          · intro W' hSw
            go_simp
            try with_reducible rfl
          try simp only [Act.put, List.setIfInBounds_toArray, List.set_cons_zero, List.set_cons_succ]
          refine wpAnyH_take (i := 19) (oi := ⟨_, _, _, _, _, _⟩) (v := ?_) rfl (by kernel_rfl) (by kernel_rfl) (by kernel_rfl) (fun _ _ _ h => h) (Or.inl ⟨by rfl, ?_⟩) (by assumption) ?_
          rotate_left 1
          · intro W' hSw
            go_simp
            try with_reducible rfl
          try simp only [Act.put, List.setIfInBounds_toArray, List.set_cons_zero, List.set_cons_succ]
          refine wpAnyH_take (i := 20) (oi := ⟨_, _, _, _, _, _⟩) (v := ?_) rfl (by kernel_rfl) (by kernel_rfl) (by kernel_rfl) (fun _ _ _ h => h) (Or.inl ⟨by rfl, ?_⟩) (by assumption) ?_
          rotate_left 1
          · intro W' hSw
            go_simp
            try with_reducible rfl
          try simp only [Act.put, List.setIfInBounds_toArray, List.set_cons_zero, List.set_cons_succ]
          refine wpAnyH_take (i := 21) (oi := ⟨_, _, _, _, _, _⟩) (v := ?_) rfl (by kernel_rfl) (by kernel_rfl) (by kernel_rfl) (fun _ _ _ h => h) (Or.inl ⟨by rfl, ?_⟩) (by assumption) ?_
          rotate_left 1
          · intro W' hSw
            go_simp
            try with_reducible rfl
          try simp only [Act.put, List.setIfInBounds_toArray, List.set_cons_zero, List.set_cons_succ]
          refine wpAnyH_take (i := 22) (oi := ⟨_, _, _, _, _, _⟩) (v := ?_) rfl (by kernel_rfl) (by kernel_rfl) (by kernel_rfl) (fun _ _ _ h => h) (Or.inl ⟨by rfl, ?_⟩) (by assumption) ?_
          rotate_left 1
          · intro W' hSw
            go_simp
            try with_reducible rfl
          try simp only [Act.put, List.setIfInBounds_toArray, List.set_cons_zero, List.set_cons_succ]
          refine wpAnyH_take (i := 23) (oi := ⟨_, _, _, _, _, _⟩) (v := ?_) rfl (by kernel_rfl) (by kernel_rfl) (by kernel_rfl) (fun _ _ _ h => h) (Or.inl ⟨by rfl, ?_⟩) (by assumption) ?_
          rotate_left 1
          · intro W' hSw
            go_simp
            try with_reducible rfl
          try simp only [Act.put, List.setIfInBounds_toArray, List.set_cons_zero, List.set_cons_succ]
          refine wpAnyH_take (i := 24) (oi := ⟨_, _, _, _, _, _⟩) (v := ?_) rfl (by kernel_rfl) (by kernel_rfl) (by kernel_rfl) (fun _ _ _ h => h) (Or.inl ⟨by rfl, ?_⟩) (by assumption) ?_
          rotate_left 1
          · intro W' hSw
            go_simp
            try with_reducible rfl
          try simp only [Act.put, List.setIfInBounds_toArray, List.set_cons_zero, List.set_cons_succ]
          refine wpAnyH_ready (rs := [25]) (by kernel_rfl) (by simp) ?_
          refine AllReadyH.cons (o := ⟨_, _, _, _, _, _⟩) rfl (fun K' hK => ?_) AllReadyH.nil
          go_simp
          refine HDR5.out.mono ?_
          rintro en V6 ⟨rfl, hER6⟩
          have hC6 : blk V6 bs = some C := (hER6.wx.1.blk (blk_lt HCW.out)).trans HCW.out
          have HER6 := hid_of hER6
          clear HDR5 hER6 hC5
          dsimp only
          refine hK.out _ _ hC6 (fun hHeld => ?_)
          clear hK K'
          try simp only [Act.put, List.setIfInBounds_toArray, List.set_cons_zero, List.set_cons_succ]
          refine wpAnyH_take (i := 26) (oi := ⟨_, _, _, _, _, _⟩) (v := ?_) rfl (by kernel_rfl) (by kernel_rfl) (by kernel_rfl) (fun _ _ _ h => h) (Or.inl ⟨by rfl, ?_⟩) (by assumption) ?_
          rotate_left 1
          · intro W' hSw
            go_simp
            try with_reducible rfl
          try simp only [Act.put, List.setIfInBounds_toArray, List.set_cons_zero, List.set_cons_succ]
          refine wpAnyH_take (i := 27) (oi := ⟨_, _, _, _, _, _⟩) (v := ?_) rfl (by kernel_rfl) (by kernel_rfl) (by kernel_rfl) (fun _ _ _ h => h) (Or.inl ⟨by rfl, ?_⟩) (by assumption) ?_
          rotate_left 1
          · intro W' hSw
            go_simp
            try with_reducible rfl
          try simp only [Act.put, List.setIfInBounds_toArray, List.set_cons_zero, List.set_cons_succ]
          refine wpAnyH_done (by kernel_rfl) ?_ _
          clear hHeld
          have hpg6 : PgX V6 b3 p := (pgX_of HB3.out HPRG.out).ext HER6.out.wx.1
          have hna := naive_any V6 b3 p hpg6 HOK.out s da D dc dom (HDK.out.sub HER6.out.sub) HDI.out ra rc T (HRK.out.sub HER6.out.sub) HRI.out HDC.out
          have HNA := hid_of hna
          clear hna hpg6 hC hb3V hC6
          go_wp2_with fail
          refine HNA.out.mono ?_
          rintro e V7 ⟨na, nc, T1, rfl, hx7, hrn7, hnr⟩
          obtain ⟨K2, hER7, hK1, hK2⟩ := HER6.out.grow hx7
          have HRB : Hid (RelR K2 ra p.P.length T) := HRK.out.sub hK1
          have HRA : Hid (RelR K2 na p.P.length T1) := hrn7.sub hK2
          have HDK2 : Hid (Rw encI 1 K2 da D dom) := HDK.out.sub hK1
          have HNR := hid_of hnr
          have hro := hER7.round HOK.out
          have HRO := hid_of hro
          clear HNA hx7 hrn7 hnr hK1 hK2 hER7 hro HER6 HRK HDK
          dsimp only
          go_wp2_with fail
          refine HRO.out.mono ?_
          intro e V8 hp
          clear HRO
          obtain ⟨R1, hR1⟩ : ∃ R1, R1 = R + 1 := ⟨_, rfl⟩
          have HR1 := hid_of hR1
          clear hR1
          rcases er_c3 hp with ⟨hj, rfl, hE8⟩ | ⟨σ', pr, hj, rfl, hC3⟩
          · have hov := over_any V8 na p.P.length nc T1 (HRA.out.sub hE8.sub) (by omega) (fun q hq => outok_len (HNR.out q hq).1)
            have HOV := hid_of hov
            have HOT : Hid (OvrT p.P.length T1) := lock_none HOK.out HRV.out hj HRI.out HMT.out HNR.out
            have HE8 := hid_of hE8
            clear hp hj hE8 hov
            dsimp only
            go_wp2_with fail
            refine HOV.out.mono ?_
            rintro e V9 ⟨b, rfl, hb, hx9⟩
            obtain rfl : b = true := hb.2 HOT.out
            have HEE := hid_of (HE8.out.ext hx9).e1
            have hru := HEE.out.running
            have HRU := hid_of hru
            clear HOV hb hx9 HE8 hru
            dsimp only
            go_wp2_with fail
            refine HRU.out.mono ?_
            rintro e V9' ⟨rfl, e9⟩
            replace e9 := e9.symm
            subst e9
            dsimp only
            have hrf := HEE.out.roundOff
            have HRF := hid_of hrf
            have hru2 := HEE.out.running
            have HRU2 := hid_of hru2
            have HI' : Hid (∃ S, E1 p W3 be S V9) := ⟨_, HEE.out⟩
            clear hrf hru2
            go_wp2_with fail
            refine HRF.out.mono ?_
            rintro e V20 ⟨rfl, e9⟩
            replace e9 := e9.symm
            subst e9
            clear HRF
            dsimp only
            go_wp2_with fail
            refine HRU2.out.mono ?_
            rintro e V21 ⟨rfl, e9⟩
            replace e9 := e9.symm
            subst e9
            clear HRU2 HEE
            dsimp only
            go_wp2_with fail
            refine ⟨rfl, rfl, ⟨rfl, rfl, rfl, i + 1, by omega, ?_, HI'⟩, ?_⟩
            · show Value.int .i64 _ = _
              go_num
            · show len - (intOf (Value.int .i64 _)).toNat < len - (intOf (F 6)).toNat
              rw [H6.out]
              simp [intOf]; omega
          · obtain ⟨hM1, hno, hany⟩ := lock_some HOK.out HRV.out hj HRI.out HMT.out HNR.out
            have hov := over_any V8 na p.P.length nc T1 (HRA.out.sub hC3.ey.wx.2.1) (by omega) (fun q hq => outok_len (HNR.out q hq).1)
            have HOV := hid_of hov
            have HC3 := hid_of hC3
            have HM1 := hid_of hM1
            have HNO := hid_of hno
            have HANY := hid_of hany
            have HJ := hid_of hj
            have HN1 : Hid (NxE p (promL σ'.1 (headsOf p s))) := (round_law HOK.out HRV.out hj).1.1
            clear hp hj hC3 hov hM1 hno hany
            dsimp only
            go_wp2_with fail
            refine HOV.out.mono ?_
            rintro e V9 ⟨b, rfl, hb, hx9⟩
            obtain rfl : b = false := by
              cases b with
              | false => rfl
              | true => exact absurd (hb.1 rfl) HNO.out
            have HC9 := hid_of (HC3.out.ext hx9)
            have hla := HC9.out.ey.lal HOK.out b3 x0 HB3.out HPL.out
            have HLA := hid_of hla
            clear HOV hb hx9 HC3 hla HNO
            dsimp only
            go_wp2_with fail
            refine HLA.out.mono ?_
            rintro e V10 ⟨bc, hbc, rfl, hlc⟩
            have hc10 := HC9.out.ext hlc.1
            have hsr := sameRels_perm V10 (some ⟨bc, 0, none⟩) p.P.length p.P.length na nc (allT (promL σ'.1 (headsOf p s))) T1 ((hlc.relN hbc).sub (newc_sub _ _)) (HRA.out.sub hc10.ey.wx.2.1) (by omega) (fun q hq => by
              have h1 := HN1.out.2.1.at (3 * q)
              exact ⟨(perm_of h1.2.1 (HNR.out q hq).1.1 (HM1.out q hq)).symm, by have := h1.1; show (rowsAt (promL σ'.1 (headsOf p s)) (3 * q)).length ≤ 10000; omega⟩)
            have HSR' := hid_of hsr
            have HC10 := hid_of hc10
            clear HLA hlc hbc hc10 hsr HC9
            dsimp only
            go_wp2_with fail
            refine HSR'.out.mono ?_
            rintro e V11 ⟨rfl, hx11⟩
            have HC11 := hid_of (HC10.out.ext hx11)
            have HX0 : Hid (V11.Extends V11) := ext_Ext (Ext.refl _)
            clear HSR' hx11 HC10
            dsimp only
            go_upto_region 38 with fail
            refine wp_loop_f 231 (le4I p V11 (some ⟨bs, o, none⟩) len cap b3 be i da D dc s R1 na nc ra rc pr) (fun f _ => p.P.length - (intOf (f 15)).toNat) rfl ⟨rfl, rfl, rfl, rfl, rfl, rfl, ?_, rfl, rfl, rfl, 0, by omega, rfl, HX0⟩ ?_
            · rw [HR1.out]
              show Value.int .i64 _ = _
              go_num
            clear HX0
            intro F4 V12 hrel
            obtain ⟨f0, f3, f4, f6, f7, f9, f10, f11, f12, f13, q, hq, f15, HXL⟩ := hrel
            have H15 := hid_of f15
            rw [frame231, f0, f3, f4, f6, f7, f9, f10, f11, f12, f13, f15]
            clear f0 f3 f4 f6 f7 f9 f10 f11 f12 f13 f15
            have hc12 := HC11.out.ext HXL.out
            have hb3V : blk V12 b3 = some x0.enc := (hc12.ey.wx.1.blk (blk_lt HB3.out)).trans HB3.out
            by_cases hqP : q < p.P.length
            · have hqP' : (q : Int) < (p.P.length : Int) := by omega
              have hde := hc12.ey.delta HOK.out q hqP
              have HDL := hid_of hde
              have HC12 := hid_of hc12
              have q0 : (0 : Int) ≤ (q : Int) := by omega
              have q2 : ((q : Int)).toNat = q := by omega
              clear hde hc12
              go_wp2_with fail
              refine HDL.out.mono ?_
              rintro e V13 ⟨ea, en, ec, rfl, hou⟩
              have hc13 := HC12.out.ext hou.2.1
              obtain ⟨bn, Cn, ta, tn, tc, hna', g1, g2, -, g3, g4⟩ := rel_at (HRA.out.sub hc13.ey.wx.2.1) hqP
              obtain ⟨bl, Cl, ua, un, uc, hra', k1, k2, -, k3, k4⟩ := rel_at (HRB.out.sub hc13.ey.wx.2.1) hqP
              have hdw : V13.Extends V13.drew := extends_drew (ext_Ext (Ext.refl _))
              have hl1 := outok_len (HNR.out q hqP).1
              have hl0 := outok_len (HRI.out q hqP)
              have hmi := minus_any V13.drew ta tn tc ua un uc (T1 q) (T q) (g4.grow hdw) (k4.grow hdw) (by rw [← g4.1]; omega) (by rw [← k4.1]; omega)
              have HMI := hid_of hmi
              have HOU := hid_of hou
              have HXA : Hid (V11.Extends V13) := HXL.out.trans hou.2.1
              have HPM : Hid ((mnL (T1 q) (T q)).Perm (rowsAt (promL σ'.1 (headsOf p s)) (3 * q + 1))) := delta_perm HOK.out HRV.out HDE.out HJ.out HMT.out HM1.out HNR.out.relI hqP
              clear HDL hou hc13 g4 k4 hmi hl1 hl0 hdw HC12 hb3V
              dsimp only
              subst hna' hra'
              go_upto_region 41 with fail
              refine wp_region_held_drew (S := fun W' => blk W' bn = some Cn ∧ blk W' bl = some Cl) (by kernel_rfl) ⟨g1, k1⟩ (fun hHeld => ?_)
              refine wpAnyH_take (i := 0) (oi := ⟨_, _, _, _, _, _⟩) (v := ?_) rfl (by kernel_rfl) (by kernel_rfl) (by kernel_rfl) (fun _ _ _ h => h) (Or.inl ⟨by rfl, ?_⟩) (by assumption) ?_
              rotate_left 1
              · intro W' hSw
                obtain ⟨hS1, hS2⟩ := hSw
                go_simp
                try with_reducible rfl
              try simp only [Act.put, List.setIfInBounds_toArray, List.set_cons_zero, List.set_cons_succ]
              refine wpAnyH_take (i := 1) (oi := ⟨_, _, _, _, _, _⟩) (v := ?_) rfl (by kernel_rfl) (by kernel_rfl) (by kernel_rfl) (fun _ _ _ h => h) (Or.inl ⟨by rfl, ?_⟩) (by assumption) ?_
              rotate_left 1
              · intro W' hSw
                obtain ⟨hS1, hS2⟩ := hSw
                go_simp
                try with_reducible rfl
              try simp only [Act.put, List.setIfInBounds_toArray, List.set_cons_zero, List.set_cons_succ]
              refine wpAnyH_take (i := 2) (oi := ⟨_, _, _, _, _, _⟩) (v := ?_) rfl (by kernel_rfl) (by kernel_rfl) (by kernel_rfl) (fun _ _ _ h => h) (Or.inl ⟨by rfl, ?_⟩) (by assumption) ?_
              rotate_left 1
              · intro W' hSw
                obtain ⟨hS1, hS2⟩ := hSw
                go_simp
                try with_reducible rfl
              try simp only [Act.put, List.setIfInBounds_toArray, List.set_cons_zero, List.set_cons_succ]
              refine wpAnyH_take (i := 3) (oi := ⟨_, _, _, _, _, _⟩) (v := ?_) rfl (by kernel_rfl) (by kernel_rfl) (by kernel_rfl) (fun _ _ _ h => h) (Or.inl ⟨by rfl, ?_⟩) (by assumption) ?_
              rotate_left 1
              · intro W' hSw
                obtain ⟨hS1, hS2⟩ := hSw
                go_simp
                try with_reducible rfl
              try simp only [Act.put, List.setIfInBounds_toArray, List.set_cons_zero, List.set_cons_succ]
              refine wpAnyH_take (i := 4) (oi := ⟨_, _, _, _, _, _⟩) (v := ?_) rfl (by kernel_rfl) (by kernel_rfl) (by kernel_rfl) (fun _ _ _ h => h) (Or.inl ⟨by rfl, ?_⟩) (by assumption) ?_
              rotate_left 1
              · intro W' hSw
                obtain ⟨hS1, hS2⟩ := hSw
                go_simp
                try with_reducible rfl
              try simp only [Act.put, List.setIfInBounds_toArray, List.set_cons_zero, List.set_cons_succ]
              refine wpAnyH_take (i := 5) (oi := ⟨_, _, _, _, _, _⟩) (v := ?_) rfl (by kernel_rfl) (by kernel_rfl) (by kernel_rfl) (fun _ _ _ h => h) (Or.inl ⟨by rfl, ?_⟩) (by assumption) ?_
              rotate_left 1
              · intro W' hSw
                obtain ⟨hS1, hS2⟩ := hSw
                go_simp
                try with_reducible rfl
              try simp only [Act.put, List.setIfInBounds_toArray, List.set_cons_zero, List.set_cons_succ]
              refine wpAnyH_take (i := 6) (oi := ⟨_, _, _, _, _, _⟩) (v := ?_) rfl (by kernel_rfl) (by kernel_rfl) (by kernel_rfl) (fun _ _ _ h => h) (Or.inl ⟨by rfl, ?_⟩) (by assumption) ?_
              rotate_left 1
              · intro W' hSw
                obtain ⟨hS1, hS2⟩ := hSw
                go_simp
                try with_reducible rfl
              try simp only [Act.put, List.setIfInBounds_toArray, List.set_cons_zero, List.set_cons_succ]
              refine wpAnyH_take (i := 7) (oi := ⟨_, _, _, _, _, _⟩) (v := ?_) rfl (by kernel_rfl) (by kernel_rfl) (by kernel_rfl) (fun _ _ _ h => h) (Or.inl ⟨by rfl, ?_⟩) (by assumption) ?_
              rotate_left 1
              · intro W' hSw
                obtain ⟨hS1, hS2⟩ := hSw
                go_simp
                try with_reducible rfl
              try simp only [Act.put, List.setIfInBounds_toArray, List.set_cons_zero, List.set_cons_succ]
              refine wpAnyH_take (i := 8) (oi := ⟨_, _, _, _, _, _⟩) (v := ?_) rfl (by kernel_rfl) (by kernel_rfl) (by kernel_rfl) (fun _ _ _ h => h) (Or.inl ⟨by rfl, ?_⟩) (by assumption) ?_
              rotate_left 1
              · intro W' hSw
                obtain ⟨hS1, hS2⟩ := hSw
                go_simp
                try with_reducible rfl
              try simp only [Act.put, List.setIfInBounds_toArray, List.set_cons_zero, List.set_cons_succ]
              refine wpAnyH_ready (rs := [9]) (by kernel_rfl) (by simp) ?_
              refine AllReadyH.cons (o := ⟨_, _, _, _, _, _⟩) rfl (fun K' hK => ?_) AllReadyH.nil
              go_simp
              refine HMI.out.mono ?_
              rintro en2 V14 ⟨a2, n2, c2, rfl, hou2⟩
              have u1 : blk V14 bn = some Cn := (hou2.2.1.blk (blk_lt g1)).trans g1
              have u2 : blk V14 bl = some Cl := (hou2.2.1.blk (blk_lt k1)).trans k1
              have hxd : V13.Extends V14 := (extends_drew (ext_Ext (Ext.refl _))).trans hou2.2.1
              have hel : en ≤ 10000 := by
                rw [HOU.out.2.2]
                have := (HN1.out.2.1.at (3 * q + 1)).1
                omega
              have hsb := sameBag_perm V14 ea en ec a2 n2 c2 _ _ (HOU.out.rw'.grow hxd) hou2.rw' HPM.out hel
              have HSB := hid_of hsb
              have HXB : Hid (V11.Extends V14) := HXA.out.trans hxd
              clear HMI hou2 hsb hxd hel
              dsimp only
              refine hK.out _ _ ⟨u1, u2⟩ (fun hHeld => ?_)
              clear hK K'
              try simp only [Act.put, List.setIfInBounds_toArray, List.set_cons_zero, List.set_cons_succ]
              refine wpAnyH_ready (rs := [10]) (by kernel_rfl) (by simp) ?_
              refine AllReadyH.cons (o := ⟨_, _, _, _, _, _⟩) rfl (fun K' hK => ?_) AllReadyH.nil
              go_simp
              refine HSB.out.mono ?_
              rintro en3 V15 ⟨rfl, hx15⟩
              have w1 : blk V15 bn = some Cn := (hx15.blk (blk_lt u1)).trans u1
              have w2 : blk V15 bl = some Cl := (hx15.blk (blk_lt u2)).trans u2
              have HXC : Hid (V11.Extends V15) := HXB.out.trans hx15
              clear HSB hx15 u1 u2
              dsimp only
              refine hK.out _ _ ⟨w1, w2⟩ (fun hHeld => ?_)
              clear hK K'
              try simp only [Act.put, List.setIfInBounds_toArray, List.set_cons_zero, List.set_cons_succ]
              refine wpAnyH_take (i := 11) (oi := ⟨_, _, _, _, _, _⟩) (v := ?_) rfl (by kernel_rfl) (by kernel_rfl) (by kernel_rfl) (fun _ _ _ h => h) (Or.inl ⟨by rfl, ?_⟩) (by assumption) ?_
              rotate_left 1
              · intro W' hSw
                obtain ⟨hS1, hS2⟩ := hSw
                go_simp
                try with_reducible rfl
              try simp only [Act.put, List.setIfInBounds_toArray, List.set_cons_zero, List.set_cons_succ]
              refine wpAnyH_done (by kernel_rfl) ?_ _
              clear hHeld
              go_wp2_with fail
              refine ⟨rfl, rfl, ⟨rfl, rfl, rfl, rfl, rfl, rfl, rfl, rfl, rfl, rfl, q + 1, by omega, ?_, HXC⟩, ?_⟩
              · show Value.int .i64 _ = _
                go_num
              · show p.P.length - (intOf (Value.int .i64 _)).toNat < p.P.length - (intOf (F4 15)).toNat
                rw [H15.out]
                simp [intOf]; omega
            · obtain rfl : q = p.P.length := by omega
              have hqP' : ¬ ((p.P.length : Int) < (p.P.length : Int)) := by omega
              have hlen1 : ∀ q, q < p.P.length → (T1 q).length ≤ 4294967296 := fun q hq => outok_len (HNR.out q hq).1
              have hlen0 : ∀ q, q < p.P.length → (T q).length ≤ 4294967296 := fun q hq => outok_len (HRI.out q hq)
              have hc1 := count_any V12 na p.P.length nc T1 (HRA.out.sub hc12.ey.wx.2.1) (by omega) hlen1
              have HC1 := hid_of hc1
              have HC12 := hid_of hc12
              have HL0 := hid_of hlen0
              clear hc1 hc12 hlen1 hlen0
              go_wp2_with fail
              refine HC1.out.mono ?_
              rintro e V13 ⟨rfl, hx13⟩
              have hc13 := HC12.out.ext hx13
              have hc2 := count_any V13 ra p.P.length rc T (HRB.out.sub hc13.ey.wx.2.1) (by omega) HL0.out
              have HC2 := hid_of hc2
              have HC13 := hid_of hc13
              clear HC1 hx13 hc13 hc2 HC12 hb3V HXL
              dsimp only
              go_wp2_with fail
              refine HC2.out.mono ?_
              rintro e V14 ⟨rfl, hx14⟩
              have hc14 := HC13.out.ext hx14
              have hb3V : blk V14 b3 = some x0.enc := (hc14.ey.wx.1.blk (blk_lt HB3.out)).trans HB3.out
              have hmono : cntT T p.P.length ≤ cntT T1 p.P.length := cntT_mono p.P.length (NR.len HNR.out HRI.out)
              obtain ⟨c1v, hc1v⟩ : ∃ c1v, c1v = cntT T1 p.P.length := ⟨_, rfl⟩
              obtain ⟨c0v, hc0v⟩ : ∃ c0v, c0v = cntT T p.P.length := ⟨_, rfl⟩
              have hany := HANY.out
              rw [← hc1v, ← hc0v] at hany hmono
              rw [← hc1v, ← hc0v]
              have htr := tot_round HOK.out HRV.out.1 HJ.out
              have hsr1 : SR p (R + 1) (promL σ'.1 (headsOf p s), qR σ'.2) := HSR.out.round HOK.out (by omega) HJ.out
              have HDC1 : Hid (DomC p dom T1) := HNR.out.dom HOK.out HDC.out HDR.out
              have HDE1 := hid_of (de_round HOK.out HRV.out HDE.out HJ.out)
              have HRTT := HRT.out
              have HMM := HM.out
              clear HC2 hx14 HC13 hc1v hc0v
              dsimp only
              rcases hc14 with ⟨rfl, ha, hE14⟩ | ⟨rfl, ha, hlt, hE14⟩ | ⟨rfl, ha, hnlt, hE14⟩
              · have hcc : c0v < c1v := by have := hany.1 ha; omega
                have hcc' : (c0v : Int) < (c1v : Int) := by omega
                have hgt := htr.2 ha
                have hcap := tot_cap HOK.out HN1.out.2.1
                obtain ⟨m1, hm1⟩ : ∃ m1, m1 = (p.St - s) + (32768 - tot (promL σ'.1 (headsOf p s)) p.P.length) := ⟨_, rfl⟩
                have HI' : Hid (St4 p W3 be S da D dom na T1 s R1 m1 V14) := .inl ⟨hss, _, _, _, hE14, HRA.out, HDK2.out, HNR.out.relI, HDC1.out, HM1.out, HDE1.out.1, by rw [HR1.out]; exact hsr1, by rw [HR1.out]; show R + 1 ≤ s + tot (promL σ'.1 (headsOf p s)) p.P.length; omega, hm1⟩
                have HLT : Hid (m1 < m) := by
                  show _ < _
                  rw [hm1, HMM]; omega
                clear hE14 hany hmono htr hsr1 hm1 ha HRTT HMM hgt hcap
                go_wp2_with fail
                exact ⟨rfl, rfl, ⟨m1, rfl, rfl, rfl, rfl, rfl, s, R1, na, nc, T1, by omega, rfl, rfl, rfl, HI'⟩, hμ.out m1 _ _ ⟨rfl, rfl, rfl, rfl, rfl, s, R1, na, nc, T1, by omega, rfl, rfl, rfl, HI'⟩ HLT.out⟩
              · have hcc : c1v = c0v := Classical.byContradiction fun h => by have := hany.2 h; rw [ha] at this; cases this
                subst hcc
                obtain ⟨m1, hm1⟩ : ∃ m1, m1 = (p.St - (s + 1)) + (32768 - tot (promL σ'.1 (headsOf p s)) p.P.length) := ⟨_, rfl⟩
                have hcap := tot_cap HOK.out HN1.out.2.1
                have HI' : Hid (St4 p W3 be S da D dom na T1 (s + 1) R1 m1 V14) := .inl ⟨hlt, _, _, _, hE14, HRA.out, HDK2.out, HNR.out.relI, HDC1.out, HM1.out, fun q hq _ => HDE1.out.2 ha q hq, by rw [HR1.out]; exact hsr1, by rw [HR1.out]; show R + 1 ≤ s + 1 + tot (promL σ'.1 (headsOf p s)) p.P.length; have := htr.1; omega, hm1⟩
                have HLT : Hid (m1 < m) := by
                  have := htr.1
                  show _ < _
                  rw [hm1, HMM]; omega
                have hne : ¬ ((s : Int) + 1 = (p.St : Int)) := by omega
                clear hE14 hany hmono htr hsr1 hm1 ha HRTT HMM hcap
                go_wp2_with fail
                have hs1 : Value.int .i64 ((s : Int) + 1) = Value.int .i64 ((s + 1 : Nat) : Int) := by
                  rw [Int.natCast_add]; rfl
                exact ⟨rfl, rfl, ⟨m1, rfl, rfl, rfl, rfl, rfl, s + 1, R1, na, nc, T1, by omega, rfl, rfl, hs1, HI'⟩, hμ.out m1 _ _ ⟨rfl, rfl, rfl, rfl, rfl, s + 1, R1, na, nc, T1, by omega, rfl, rfl, hs1, HI'⟩ HLT.out⟩
              · have hcc : c1v = c0v := Classical.byContradiction fun h => by have := hany.2 h; rw [ha] at this; cases this
                subst hcc
                have heq : (s : Int) + 1 = (p.St : Int) := by omega
                have hsts := hE14.stats
                have HSTS := hid_of hsts
                have HE14 := hid_of hE14
                have hqf := hsr1.der HNR.out.relI HM1.out
                have hqr := hsr1.rn
                have hqe := hsr1.em
                obtain ⟨QG, hQG⟩ : ∃ QG, QG = qR σ'.2 := ⟨_, rfl⟩
                have hqf' : QG.fresh = ((derT p T1 p.P.length : Nat) : Int) := by rw [hQG]; exact hqf
                have hqr' : QG.rounds = (R1 : Int) := by rw [hQG, HR1.out]; exact hqr
                have hqe' : QG.fresh ≤ QG.emitted := by rw [hQG]; exact hqe
                rw [← hQG] at HSTS HE14
                have hqd := derived_any V14 b3 p
                have hql := GStats.length_enc QG
                clear hE14 hany hmono htr hsr1 ha HRTT HMM hqf hqr hqe hQG hsts hqd
                go_wp2_with fail
                refine HSTS.out.mono ?_
                rintro e V15 ⟨rfl, hx15⟩
                have HE15 := hid_of (HE14.out.ext hx15)
                clear HSTS hx15 HE14 hb3V
                dsimp only
                go_upto_region 52 with fail
                refine wp_world (fun V => blk V V15.heap.size = some QG.enc ∧ V15.Extends V) ⟨?_, ?_⟩ ?_
                · first | (rw [blk_put, if_pos rfl, blk_alloc, if_pos rfl]; rfl) | (rw [blk_alloc, if_pos rfl])
                · first | exact extends_put (extends_alloc (ext_Ext (Ext.refl _)) _) (Nat.le_refl _) _ | exact extends_alloc (ext_Ext (Ext.refl _)) _
                rintro V16 ⟨hb19, hx16⟩
                obtain ⟨b19, e19⟩ : ∃ b19, b19 = V15.heap.size := ⟨_, rfl⟩
                rw [← e19] at hb19 ⊢
                have HE16 := hid_of (HE15.out.ext hx16)
                have hdw : V16.Extends V16.drew := extends_drew (ext_Ext (Ext.refl _))
                have hqd := derived_any V16.drew b3 p ((pgX_of HB3.out HPRG.out).ext (HE16.out.k.e1.wx.1.trans hdw)) HOK.out na nc T1 ((HRA.out.sub HE16.out.k.sub).ext hdw) (fun q hq => outok_len (HNR.out q hq).1)
                obtain ⟨QE, hQE⟩ : ∃ QE, QE = QG.enc := ⟨_, rfl⟩
                obtain ⟨dv, hdv⟩ : ∃ dv, dv = derT p T1 p.P.length := ⟨_, rfl⟩
                obtain ⟨em, hem⟩ : ∃ em, em = QG.emitted := ⟨_, rfl⟩
                have n0 : nth QE 0 = some (.int .i64 (R1 : Int)) := by rw [hQE, ← hqr']; exact GStats.rounds_get QG
                have n2 : nth QE 2 = some (.int .i64 em) := by rw [hQE, hem]; exact GStats.emitted_get QG
                have n3 : nth QE 3 = some (.int .i64 (dv : Int)) := by rw [hQE, hdv, ← hqf']; exact GStats.fresh_get QG
                have hnl : ¬ em < (dv : Int) := by rw [hem, hdv, ← hqf']; omega
                have hd1 : decide (em < (dv : Int)) = false := decide_eq_false hnl
                rw [← hQE] at hb19 hql
                rw [← hdv] at hqd
                have y0 : 0 < QE.length := by omega
                have y2 : 2 < QE.length := by omega
                have y3 : 3 < QE.length := by omega
                have HQD := hid_of hqd
                have HEF := hid_of (HE16.out.ext hdw)
                clear hx16 HE15 hdw hqd hqf' hqr' hqe' hdv hem hQE e19 HE16
                refine wp_region_held_drew (S := fun W' => blk W' b19 = some QE) (by kernel_rfl) hb19 (fun hHeld => ?_)
                refine wpAnyH_take (i := 0) (oi := ⟨_, _, _, _, _, _⟩) (v := ?_) rfl (by kernel_rfl) (by kernel_rfl) (by kernel_rfl) (fun _ _ _ h => h) (Or.inl ⟨by rfl, ?_⟩) (by assumption) ?_
                rotate_left 1
                · intro W' hSw
                  go_simp
                  try with_reducible rfl
                try simp only [Act.put, List.setIfInBounds_toArray, List.set_cons_zero, List.set_cons_succ]
                refine wpAnyH_take (i := 1) (oi := ⟨_, _, _, _, _, _⟩) (v := ?_) rfl (by kernel_rfl) (by kernel_rfl) (by kernel_rfl) (fun _ _ _ h => h) (Or.inl ⟨by rfl, ?_⟩) (by assumption) ?_
                rotate_left 1
                · intro W' hSw
                  go_simp
                  try with_reducible rfl
                try simp only [Act.put, List.setIfInBounds_toArray, List.set_cons_zero, List.set_cons_succ]
                refine wpAnyH_take (i := 2) (oi := ⟨_, _, _, _, _, _⟩) (v := ?_) rfl (by kernel_rfl) (by kernel_rfl) (by kernel_rfl) (fun _ _ _ h => h) (Or.inl ⟨by rfl, ?_⟩) (by assumption) ?_
                rotate_left 1
                · intro W' hSw
                  go_simp
                  try with_reducible rfl
                try simp only [Act.put, List.setIfInBounds_toArray, List.set_cons_zero, List.set_cons_succ]
                refine wpAnyH_take (i := 3) (oi := ⟨_, _, _, _, _, _⟩) (v := ?_) rfl (by kernel_rfl) (by kernel_rfl) (by kernel_rfl) (fun _ _ _ h => h) (Or.inl ⟨by rfl, ?_⟩) (by assumption) ?_
                rotate_left 1
                · intro W' hSw
                  go_simp
                  try with_reducible rfl
                try simp only [Act.put, List.setIfInBounds_toArray, List.set_cons_zero, List.set_cons_succ]
                refine wpAnyH_take (i := 4) (oi := ⟨_, _, _, _, _, _⟩) (v := ?_) rfl (by kernel_rfl) (by kernel_rfl) (by kernel_rfl) (fun _ _ _ h => h) (Or.inl ⟨by rfl, ?_⟩) (by assumption) ?_
                rotate_left 1
                · intro W' hSw
                  go_simp
                  try with_reducible rfl
                try simp only [Act.put, List.setIfInBounds_toArray, List.set_cons_zero, List.set_cons_succ]
                refine wpAnyH_take (i := 5) (oi := ⟨_, _, _, _, _, _⟩) (v := ?_) rfl (by kernel_rfl) (by kernel_rfl) (by kernel_rfl) (fun _ _ _ h => h) (Or.inl ⟨by rfl, ?_⟩) (by assumption) ?_
                rotate_left 1
                · intro W' hSw
                  go_simp
                  try with_reducible rfl
                try simp only [Act.put, List.setIfInBounds_toArray, List.set_cons_zero, List.set_cons_succ]
                refine wpAnyH_take (i := 6) (oi := ⟨_, _, _, _, _, _⟩) (v := ?_) rfl (by kernel_rfl) (by kernel_rfl) (by kernel_rfl) (fun _ _ _ h => h) (Or.inl ⟨by rfl, ?_⟩) (by assumption) ?_
                rotate_left 1
                · intro W' hSw
                  go_simp
                  try with_reducible rfl
                try simp only [Act.put, List.setIfInBounds_toArray, List.set_cons_zero, List.set_cons_succ]
                refine wpAnyH_take (i := 7) (oi := ⟨_, _, _, _, _, _⟩) (v := ?_) rfl (by kernel_rfl) (by kernel_rfl) (by kernel_rfl) (fun _ _ _ h => h) (Or.inl ⟨by rfl, ?_⟩) (by assumption) ?_
                rotate_left 1
                · intro W' hSw
                  go_simp
                  try with_reducible rfl
                try simp only [Act.put, List.setIfInBounds_toArray, List.set_cons_zero, List.set_cons_succ]
                refine wpAnyH_ready (rs := [8]) (by kernel_rfl) (by simp) ?_
                refine AllReadyH.cons (o := ⟨_, _, _, _, _, _⟩) rfl (fun K' hK => ?_) AllReadyH.nil
                go_simp
                refine HQD.out.mono ?_
                rintro en2 V17 ⟨rfl, e9⟩
                replace e9 := e9.symm
                subst e9
                clear HQD
                dsimp only
                refine hK.out _ _ hb19 (fun hHeld => ?_)
                clear hK K'
                try simp only [Act.put, List.setIfInBounds_toArray, List.set_cons_zero, List.set_cons_succ]
                refine wpAnyH_take (i := 9) (oi := ⟨_, _, _, _, _, _⟩) (v := ?_) rfl (by kernel_rfl) (by kernel_rfl) (by kernel_rfl) (fun _ _ _ h => h) (Or.inl ⟨by rfl, ?_⟩) (by assumption) ?_
                rotate_left 1
                · intro W' hSw
                  go_simp
                  try with_reducible rfl
                try simp only [Act.put, List.setIfInBounds_toArray, List.set_cons_zero, List.set_cons_succ]
                refine wpAnyH_take (i := 10) (oi := ⟨_, _, _, _, _, _⟩) (v := ?_) rfl (by kernel_rfl) (by kernel_rfl) (by kernel_rfl) (fun _ _ _ h => h) (Or.inl ⟨by rfl, ?_⟩) (by assumption) ?_
                rotate_left 1
                · intro W' hSw
                  go_simp
                  try with_reducible rfl
                try simp only [Act.put, List.setIfInBounds_toArray, List.set_cons_zero, List.set_cons_succ]
                refine wpAnyH_take (i := 11) (oi := ⟨_, _, _, _, _, _⟩) (v := ?_) rfl (by kernel_rfl) (by kernel_rfl) (by kernel_rfl) (fun _ _ _ h => h) (Or.inl ⟨by rfl, ?_⟩) (by assumption) ?_
                rotate_left 1
                · intro W' hSw
                  go_simp
                  try with_reducible rfl
                try simp only [Act.put, List.setIfInBounds_toArray, List.set_cons_zero, List.set_cons_succ]
                refine wpAnyH_take (i := 12) (oi := ⟨_, _, _, _, _, _⟩) (v := ?_) rfl (by kernel_rfl) (by kernel_rfl) (by kernel_rfl) (fun _ _ _ h => h) (Or.inl ⟨by rfl, ?_⟩) (by assumption) ?_
                rotate_left 1
                · intro W' hSw
                  go_simp
                  try with_reducible rfl
                try simp only [Act.put, List.setIfInBounds_toArray, List.set_cons_zero, List.set_cons_succ]
                refine wpAnyH_take (i := 13) (oi := ⟨_, _, _, _, _, _⟩) (v := ?_) rfl (by kernel_rfl) (by kernel_rfl) (by kernel_rfl) (fun _ _ _ h => h) (Or.inl ⟨by rfl, ?_⟩) (by assumption) ?_
                rotate_left 1
                · intro W' hSw
                  go_simp
                  try with_reducible rfl
                try simp only [Act.put, List.setIfInBounds_toArray, List.set_cons_zero, List.set_cons_succ]
                refine wpAnyH_take (i := 14) (oi := ⟨_, _, _, _, _, _⟩) (v := ?_) rfl (by kernel_rfl) (by kernel_rfl) (by kernel_rfl) (fun _ _ _ h => h) (Or.inl ⟨by rfl, ?_⟩) (by assumption) ?_
                rotate_left 1
                · intro W' hSw
                  go_simp
                  try with_reducible rfl
                try simp only [Act.put, List.setIfInBounds_toArray, List.set_cons_zero, List.set_cons_succ]
                refine wpAnyH_take (i := 15) (oi := ⟨_, _, _, _, _, _⟩) (v := ?_) rfl (by kernel_rfl) (by kernel_rfl) (by kernel_rfl) (fun _ _ _ h => h) (Or.inl ⟨by rfl, ?_⟩) (by assumption) ?_
                rotate_left 1
                · intro W' hSw
                  go_simp
                  try with_reducible rfl
                try simp only [Act.put, List.setIfInBounds_toArray, List.set_cons_zero, List.set_cons_succ]
                refine wpAnyH_take (i := 16) (oi := ⟨_, _, _, _, _, _⟩) (v := ?_) rfl (by kernel_rfl) (by kernel_rfl) (by kernel_rfl) (fun _ _ _ h => h) (Or.inl ⟨by rfl, ?_⟩) (by assumption) ?_
                rotate_left 1
                · intro W' hSw
                  go_simp
                  try with_reducible rfl
                try simp only [Act.put, List.setIfInBounds_toArray, List.set_cons_zero, List.set_cons_succ]
                refine wpAnyH_take (i := 17) (oi := ⟨_, _, _, _, _, _⟩) (v := ?_) rfl (by kernel_rfl) (by kernel_rfl) (by kernel_rfl) (fun _ _ _ h => h) (Or.inl ⟨by rfl, ?_⟩) (by assumption) ?_
                rotate_left 1
                · intro W' hSw
                  go_simp
                  try with_reducible rfl
                try simp only [Act.put, List.setIfInBounds_toArray, List.set_cons_zero, List.set_cons_succ]
                refine wpAnyH_done (by kernel_rfl) ?_ _
                clear hHeld
                have HI' : Hid (St4 p W3 be S da D dom na T1 p.St R1 0 V16.drew) := .inr ⟨rfl, rfl, _, HEF.out.k.e1⟩
                have HLT : Hid (0 < m) := by
                  have := HM.out
                  show _ < _
                  omega
                obtain ⟨m1, hm1⟩ : ∃ m1, m1 = 0 := ⟨_, rfl⟩
                rw [← hm1] at HI' HLT
                clear hm1 HEF
                go_wp2_with fail
                exact ⟨rfl, rfl, ⟨m1, rfl, rfl, rfl, rfl, rfl, p.St, R1, na, nc, T1, by omega, rfl, rfl, rfl, HI'⟩, hμ.out m1 _ _ ⟨rfl, rfl, rfl, rfl, rfl, p.St, R1, na, nc, T1, by omega, rfl, rfl, rfl, HI'⟩ HLT.out⟩
        · have hb3V : blk V5 b3 = some x0.enc := (hE1.wx.1.blk (blk_lt HB3.out)).trans HB3.out
          have hss' : ¬ ((p.St : Int) < (p.St : Int)) := by omega
          have HEE := hid_of hE1
          clear HST hE1
          have hrf := HEE.out.roundOff
          have HRF := hid_of hrf
          have hru2 := HEE.out.running
          have HRU2 := hid_of hru2
          have HI' : Hid (∃ S, E1 p W3 be S V5) := ⟨_, HEE.out⟩
          clear hrf hru2
          go_wp2_with fail
          refine HRF.out.mono ?_
          rintro e V20 ⟨rfl, e9⟩
          replace e9 := e9.symm
          subst e9
          clear HRF
          dsimp only
          go_wp2_with fail
          refine HRU2.out.mono ?_
          rintro e V21 ⟨rfl, e9⟩
          replace e9 := e9.symm
          subst e9
          clear HRU2 HEE
          dsimp only
          go_wp2_with fail
          refine ⟨rfl, rfl, ⟨rfl, rfl, rfl, i + 1, by omega, ?_, HI'⟩, ?_⟩
          · show Value.int .i64 _ = _
            go_num
          · show len - (intOf (Value.int .i64 _)).toNat < len - (intOf (F 6)).toNat
            rw [H6.out]
            simp [intOf]; omega
    · have hpl := hE.play HOK.out (g i)
      have HPY := hid_of hpl
      clear hpl hE hxV
      go_wp2_with fail
      refine HPY.out.mono ?_
      rintro e V2 ⟨S', A, ts, rfl, -, hE'⟩
      have HI' : Hid (∃ S, E1 p W3 be S V2) := ⟨S', hE'⟩
      clear HPY hE' hC
      dsimp only
      go_wp2_with fail
      refine ⟨rfl, rfl, ⟨rfl, rfl, rfl, i + 1, by omega, ?_, HI'⟩, ?_⟩
      · show Value.int .i64 _ = _
        go_num
      · show len - (intOf (Value.int .i64 _)).toNat < len - (intOf (F 6)).toNat
        rw [H6.out]
        simp [intOf]; omega
  · obtain rfl : i = len := by omega
    have hin' : ¬ ((i : Int) < (i : Int)) := by omega
    have HP : Hid (Q (.returned (.bool true)) V) := by
      show Q _ _
      rw [HQ.out]; exact ⟨rfl, HXW.out.trans hxV⟩
    clear HI hE hxV
    go_wp2_with fail
    try go_ret
    exact HP.out
end Go.Proofs.Qxb6500788a
