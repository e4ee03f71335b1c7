import Derived.Test.Qxb6500788aJq
import Derived.Test.Qxb6500788aJp
import Derived.StillTailTactics
import Derived.Deep.QuietTactic
import Derived.BigQuiet
import Derived.Deep.RegionHeld
import Derived.Deep.CutRange
import Derived.Laws.ResultCell
import Derived.Laws.Rows
import Derived.DeepKeys
import Derived.DataBytes
import Derived.Laws.StructEq
import Derived.Laws.AppendOwn
import Derived.Laws.MakeOwn
set_option linter.unusedSimpArgs false
set_option linter.unusedVariables false
namespace Go.Proofs.Qxb6500788a
open Go.RowKit Go.Blk
attribute [local go_sem ↓] execOp_load execOp_store execOp_alloc
attribute [local go_sem] Try.ld24 Try.st24 Try.ld25 Try.st25 Try.ld3 Try.st3 Try.ld30 Try.st30 Try.ld36 Try.st36 Try.ld4 Try.st4 Try.ld41 Try.st41 Try.ld50 Try.st50 Try.ld40 Try.st40 Try.ld42 Try.st42 Try.ld89 Try.st89 Try.ld91 Try.st91 Try.ld56 Try.st56 Try.ld97 Try.st97 Try.ld98 Try.st98 Try.ld101 Try.st101 Try.ld104 Try.st104 Try.ld57 Try.st57 Try.ld130 Try.st130 Try.ld2 Try.st2 Try.ld5 Try.st5 Try.ld9 Try.st9 Try.ld12 Try.st12 Try.ld21 Try.st21 Try.ld22 Try.st22 Try.ld29 Try.st29 Try.ld33 Try.st33 Try.ld59 Try.st59 Try.ld62 Try.st62 Try.ld69 Try.st69 Try.ld94 Try.st94 Try.ld96 Try.st96 Try.ld129 Try.st129 Try.ld158 Try.st158 Try.ld162 Try.st162 Try.ld47 Try.st47 Try.ld44 Try.st44 Try.ld137 Try.st137 Try.ld145 Try.st145 Try.ld43 Try.st43 Try.ld27 Try.st27 Try.ld38 Try.st38 Try.ld46 Try.st46 Try.ld49 Try.st49 Try.ld52 Try.st52 Try.ld54 Try.st54 Try.ld61 Try.st61 Try.ld80 Try.st80 Try.ld87 Try.st87 Try.ld93 Try.st93 Try.ld100 Try.st100 Try.ld103 Try.st103 Try.ld106 Try.st106 Try.ld109 Try.st109 Try.ld132 Try.st132 Try.ld147 Try.st147 Try.al47 Try.al44 Try.al137 Try.al145 Try.al43 Try.al27 Try.al38 Try.al46 Try.al49 Try.al52 Try.al54 Try.al61 Try.al80 Try.al87 Try.al93 Try.al100 Try.al103 Try.al106 Try.al109 Try.al132 Try.al147
attribute [local go_sem] GProgram.length_enc GProgram.ok_enc GProgram.all_get GProgram.all_set GProgram.preds_get GProgram.preds_set GProgram.rules_get GProgram.rules_set GProgram.strata_get GProgram.strata_set Answer.length_enc Answer.ok_enc Answer.all_get Answer.all_set Answer.code_get Answer.code_set Answer.n_get Answer.n_set Answer.rows_get Answer.rows_set Term.length_enc Term.ok_enc Term.all_get Term.all_set Term.var_get Term.var_set Term.n_get Term.n_set Atom.length_enc Atom.ok_enc Atom.all_get Atom.all_set Atom.pred_get Atom.pred_set Atom.args_get Atom.args_set GRule.length_enc GRule.ok_enc GRule.all_get GRule.all_set GRule.head_get GRule.head_set GRule.body_get GRule.body_set GRule.head_pred_get GRule.head_pred_set GRule.head_args_get GRule.head_args_set GOp.length_enc GOp.ok_enc GOp.all_get GOp.all_set GOp.kind_get GOp.kind_set GOp.pred_get GOp.pred_set GOp.t_get GOp.t_set GOp.n_get GOp.n_set GOp.base_get GOp.base_set GOp.rule_get GOp.rule_set GOp.rule_head_get GOp.rule_head_set GOp.rule_body_get GOp.rule_body_set GOp.rule_head_pred_get GOp.rule_head_pred_set GOp.rule_head_args_get GOp.rule_head_args_set PredInfo.length_enc PredInfo.ok_enc PredInfo.all_get PredInfo.all_set PredInfo.arity_get PredInfo.arity_set PredInfo.base_get PredInfo.base_set PredInfo.stratum_get PredInfo.stratum_set GStats.length_enc GStats.ok_enc GStats.all_get GStats.all_set GStats.rounds_get GStats.rounds_set GStats.fired_get GStats.fired_set GStats.emitted_get GStats.emitted_set GStats.fresh_get GStats.fresh_set Literal.length_enc Literal.ok_enc Literal.all_get Literal.all_set Literal.neg_get Literal.neg_set Literal.atom_get Literal.atom_set Literal.atom_pred_get Literal.atom_pred_set Literal.atom_args_get Literal.atom_args_set Engine.length_enc Engine.ok_enc Engine.all_get Engine.all_set Engine.prog_get Engine.prog_set Engine.st_get Engine.st_set Engine.levels_get Engine.levels_set Engine.running_get Engine.running_set Engine.stratum_get Engine.stratum_set Engine.round_get Engine.round_set Engine.saved_get Engine.saved_set Engine.stats_get Engine.stats_set Engine.prog_preds_get Engine.prog_preds_set Engine.prog_rules_get Engine.prog_rules_set Engine.prog_strata_get Engine.prog_strata_set Engine.stats_rounds_get Engine.stats_rounds_set Engine.stats_fired_get Engine.stats_fired_set Engine.stats_emitted_get Engine.stats_emitted_set Engine.stats_fresh_get Engine.stats_fresh_set Level.length_enc Level.ok_enc Level.all_get Level.all_set Level.heads_get Level.heads_set Level.jobs_get Level.jobs_set Plan.length_enc Plan.ok_enc Plan.all_get Plan.all_set Plan.rule_get Plan.rule_set Plan.delta_get Plan.delta_set Plan.src_get Plan.src_set Job.length_enc Job.ok_enc Job.all_get Job.all_set Job.full_get Job.full_set Job.deltas_get Job.deltas_set Job.full_rule_get Job.full_rule_set Job.full_delta_get Job.full_delta_set Job.full_src_get Job.full_src_set GState.length_enc GState.ok_enc GState.all_get GState.all_set GState.prog_get GState.prog_set GState.base_get GState.base_set GState.shown_get GState.shown_set GState.prog_preds_get GState.prog_preds_set GState.prog_rules_get GState.prog_rules_set GState.prog_strata_get GState.prog_strata_set Store.length_enc Store.ok_enc Store.all_get Store.all_set Store.arity_get Store.arity_set Store.rows_get Store.rows_set Env.length_enc Env.ok_enc Env.all_get Env.all_set Env.val_get Env.val_set Env.set_get Env.set_set
attribute [local go_sem] size_put size_ext blk_put free_put blk_alloc free_alloc blk_drew free_drew blk_ext free_ext lookOr_some putOr_some segAt_some cellAt_some storeIn_some put_put put_alloc_new length_arr ok_arr_u8 ok_arr_u32 ok_arr_u64 ok_arr_i64 ok_arr_sl cellsV_agg cellsV_int cellsV_bool cellsV_string cellsV_pointer cellsV_slice cellsV_sl ok_int ok_bool ok_string ok_pointer ok_slice ok_sl toList_arr seg_arr set_arr nth_splice nth_splice0 seg_splice seg_splice0 splice_splice splice_splice0 length_splice_if
attribute [local go_sem ↓] execOp_box
attribute [local go_sem] box_run nth_arr_u8 put_arr_u8 blk_drewN free_drewN put_drewN blk_raw free_raw
/-- The engine in the rounds of law 6. -/
def St6 (p : Pg) (W3 : World) (be : Nat) (S : List (List Tup)) (K : World) (c : Bool) (k : Nat) (V : World) : Prop := (c = false ∧ ∃ s rn σ, ER p W3 be S s rn σ K V ∧ k ≤ s + tot σ.1 p.P.length) ∨ ∃ S', E1K p W3 be S' K V ∧ (c = false → S' = S)
def lb6I (p : Pg) (W3 : World) (a : Option Addr) (len cap b3 be i : Nat) (aa : Option Addr) (ac : Nat) (S : List (List Tup)) (K : World) (N : Nat) (f : Nat → Value) (V : World) : Prop := f 0 = .slice a len cap ∧ f 3 = .pointer (some ⟨b3, 0, none⟩) ∧ f 4 = .pointer (some ⟨be, 0, none⟩) ∧ f 6 = .int .i64 (i : Nat) ∧ f 7 = .slice aa p.P.length ac ∧ ∃ (k : Nat) (c : Bool), k ≤ N ∧ f 8 = .bool c ∧ f 9 = .int .i64 (k : Nat) ∧ Hid (St6 p W3 be S K c k V)
def lc6I (p : Pg) (W7 K : World) (a : Option Addr) (len cap b3 be i : Nat) (aa : Option Addr) (ac bo : Nat) (S : List (List Tup)) (f : Nat → Value) (V : World) : Prop := f 0 = .slice a len cap ∧ f 3 = .pointer (some ⟨b3, 0, none⟩) ∧ f 4 = .pointer (some ⟨be, 0, none⟩) ∧ f 6 = .int .i64 (i : Nat) ∧ f 7 = .slice aa p.P.length ac ∧ f 12 = .slice (some ⟨bo, 0, none⟩) p.P.length p.P.length ∧ ∃ q : Nat, q ≤ p.P.length ∧ f 13 = .int .i64 (q : Nat) ∧ Hid (LwI W7 K bo p.P.length (basT p S) q V)
attribute [local go_sem ↓] execOp_make
set_option maxRecDepth 100000 in
theorem frame147 (f : Nat → Value) : frameN 147 f = #[f 0, f 1, f 2, f 3, f 4, f 5, f 6, f 7, f 8, f 9, f 10, f 11, f 12, f 13, f 14, f 15, f 16, f 17, f 18, f 19, f 20, f 21, f 22, f 23, f 24, f 25, f 26, f 27, f 28, f 29, f 30, f 31, f 32, f 33, f 34, f 35, f 36, f 37, f 38, f 39, f 40, f 41, f 42, f 43, f 44, f 45, f 46, f 47, f 48, f 49, f 50, f 51, f 52, f 53, f 54, f 55, f 56, f 57, f 58, f 59, f 60, f 61, f 62, f 63, f 64, f 65, f 66, f 67, f 68, f 69, f 70, f 71, f 72, f 73, f 74, f 75, f 76, f 77, f 78, f 79, f 80, f 81, f 82, f 83, f 84, f 85, f 86, f 87, f 88, f 89, f 90, f 91, f 92, f 93, f 94, f 95, f 96, f 97, f 98, f 99, f 100, f 101, f 102, f 103, f 104, f 105, f 106, f 107, f 108, f 109, f 110, f 111, f 112, f 113, f 114, f 115, f 116, f 117, f 118, f 119, f 120, f 121, f 122, f 123, f 124, f 125, f 126, f 127, f 128, f 129, f 130, f 131, f 132, f 133, f 134, f 135, f 136, f 137, f 138, f 139, f 140, f 141, f 142, f 143, f 144, f 145, f 146] := by kernel_rfl
set_option maxRecDepth 20000 in
set_option maxHeartbeats 4000000 in
theorem abort_walk (w : World) (a : Option Addr) (len cap : Nat) (g : Nat → GOp) (dt : Nat → List Literal) (hS : ScriptAt w a len cap g dt) :
    Calls Try.prog 6 #[.slice a len cap] w fun e w' => e = .returned (.bool true) ∧ w.Extends w' := by
  obtain ⟨Q, hQ⟩ : ∃ Q, Q = (fun e w' => e = .returned (.bool true) ∧ w.Extends w' : Ending → World → Prop) := ⟨_, rfl⟩
  rw [← hQ]
  have HQ := hid_of hQ
  have HS := hid_of hS
  have hsm := small_any w a len cap g dt hS
  have HSM := hid_of hsm
  clear hQ hS hsm
  go_enter Try.func6, Try.ntmps6
  go_wp2_with fail
  refine HSM.out.mono ?_
  rintro e W ⟨⟨r, rfl, hr⟩, rfl⟩
  clear HSM
  dsimp only
  cases r with
  | false =>
    have HP : Hid (Q (.returned (.bool true)) W) := by
      show Q _ _
      rw [HQ.out]; exact ⟨rfl, ext_Ext (Ext.refl _)⟩
    go_wp2_with fail
    try go_ret
    exact HP.out
  | true =>
  obtain ⟨hlen, -⟩ := hr rfl
  have hpo := programOf_x W a len cap g dt HS.out hlen
  have HPO := hid_of hpo
  clear hpo hr
  go_wp2_with fail
  refine HPO.out.mono ?_
  intro e W2 hpx
  obtain ⟨x0, p, rfl, hx2, hprg, hok⟩ := progX_ok hpx
  clear HPO hpx
  dsimp only
  have g0l := GProgram.length_enc x0
  go_upto_region 4 with fail
  refine wp_world (fun V => blk V W2.heap.size = some x0.enc ∧ W2.Extends V) ⟨?_, ?_⟩ ?_
  · first | (rw [blk_put, if_pos rfl, blk_alloc, if_pos rfl]; rfl) | (rw [blk_alloc, if_pos rfl])
  · first | exact extends_put (extends_alloc (ext_Ext (Ext.refl _)) _) (Nat.le_refl _) _ | exact extends_alloc (ext_Ext (Ext.refl _)) _
  rintro W3 ⟨hb3, hx3⟩
  obtain ⟨b3, e3⟩ : ∃ b3, b3 = W2.heap.size := ⟨_, rfl⟩
  rw [← e3] at hb3 ⊢
  have hprg3 := hprg.ext hx3
  have HPRG := hid_of hprg3
  have HOK := hid_of hok
  have HXW := hid_of (hx2.trans hx3)
  have HB3 := hid_of hb3
  have hpl := hprg3.1
  have HPL := hid_of hpl
  have h64 := hok.nP
  have hx0 : nth x0.enc 0 = some (.slice x0.preds.a p.P.length x0.preds.cap) := by rw [← hpl]; exact GProgram.preds_get x0
  have hnw := new_x W3 (fun _ => .no) 0 p x0 (hprg3.sub (core_no W3)) hok (fun k _ => ⟨(by rintro ⟨m, e⟩; cases e), (by rintro ⟨m, e⟩; cases e)⟩)
  have HNW := hid_of hnw
  clear e3 hx3 hx2 hprg hprg3 hok hpl hnw
  go_wp2_with fail
  refine HNW.out.mono ?_
  rintro e V1 ⟨be, O1, x1, rfl, hx1, ho1, hE1, hr1⟩
  have HI0 : Hid (∃ S, E1 p W3 be S V1) := by
    have hrow : ∀ r, rowsAt (List.replicate (3 * p.P.length) ([] : List Tup)) r = [] := fun r => by
      unfold rowsAt
      rw [List.getD_eq_getElem?_getD, List.getElem?_replicate]
      by_cases hr : r < 3 * p.P.length
      · rw [if_pos hr]; rfl
      · rw [if_neg hr]; rfl
    refine ⟨_, O1, x1, _, hx1, ho1, hE1, hr1, ⟨⟨⟨by simp, fun L hL => ?_, fun q _ => hrow _⟩, fun q _ => hrow _⟩, fun q j _ _ t ht => by rw [hrow] at ht; cases ht⟩⟩
    rw [List.eq_of_mem_replicate hL]
    exact ⟨by simp, outOk_nil⟩
  clear HNW hx1 ho1 hE1 hr1 hb3
  dsimp only
  go_upto_region 6 with fail
  refine wp_loop_f 147 (la7I p W3 a len cap b3 be) (fun f _ => len - (intOf (f 6)).toNat) rfl ⟨rfl, rfl, rfl, 0, by omega, rfl, HI0⟩ ?_
  clear HI0
  intro F V hrel
  obtain ⟨f0, f3, f4, i, hi, f6, HI⟩ := hrel
  have H6 := hid_of f6
  rw [frame147, f0, f3, f4, f6]
  clear f0 f3 f4 f6
  obtain ⟨S, hE⟩ := HI.out
  have hxV : W3.Extends V := by obtain ⟨_, _, _, h, _⟩ := hE; exact h
  by_cases hin : i < len
  · have hin' : (i : Int) < (len : Int) := by omega
    obtain ⟨bs, o, C, rfl, hCW, hlC, hseg⟩ := (HS.out.mono HXW.out).2.2.2 (by omega)
    have hsg := hseg i hin
    have i0 : (0 : Int) ≤ (i : Int) := by omega
    have i2 : ((i : Int)).toNat = i := by omega
    have hil : (i + 1) * 18 ≤ len * 18 := Nat.mul_le_mul_right _ hin
    have l1 : o + i * 18 + 18 ≤ C.length := by omega
    have HCW := hid_of hCW
    have hC : blk V bs = some C := (hxV.blk (blk_lt hCW)).trans hCW
    have hk0 : nth C (o + i * 18) = some (.int .i64 (g i).kind) := nth_in (j := 0) hsg (GOp.kind_get (g i)) (by omega)
    have hk3 : nth C (o + i * 18 + 6) = some (.int .i64 (g i).n) := nth_in (j := 6) hsg (GOp.n_get (g i)) (by omega)
    have l2 : o + i * 18 < C.length := by omega
    have l3 : o + i * 18 + 6 < C.length := by omega
    clear hseg HI hil hCW
    by_cases hk : (g i).kind = 4
    · rw [hk] at hk0
      have hla := hE.lal HOK.out b3 x0 HB3.out HPL.out
      have HLA := hid_of hla
      have HE := hid_of hE
      clear hla hE hsg hxV
      go_wp2_with fail
      refine HLA.out.mono ?_
      rintro e V1 ⟨ba, hba, rfl, hla⟩
      have HEK : Hid (E1K p W3 be S (newc V.heap.size V1) V1) := HE.out.grow hla.1
      have HRK : Hid (RelR (newc V.heap.size V1) (some ⟨ba, 0, none⟩) p.P.length (allT S)) := hla.relN hba
      obtain ⟨K, hK⟩ : ∃ K, K = newc V.heap.size V1 := ⟨_, rfl⟩
      rw [← hK] at HEK HRK
      have hca := HEK.out.cancel HOK.out
      have HCA := hid_of hca
      clear HLA hla hba HE hK hca hC
      dsimp only
      go_wp2_with fail
      refine HCA.out.mono ?_
      rintro e V1' ⟨rfl, e9⟩
      replace e9 := e9.symm
      subst e9
      have hbe := HEK.out.begin HOK.out
      have HBE := hid_of hbe
      clear HCA hbe HEK
      dsimp only
      go_wp2_with fail
      refine HBE.out.mono ?_
      rintro e V2 ⟨rfl, hER⟩
      obtain ⟨N, hN⟩ : ∃ N, N = (g i).n.toNat := ⟨_, rfl⟩
      have HN := hid_of hN
      have HI0 : Hid (St6 p W3 be S K false 0 V2) := .inl ⟨rfl, _, _, _, hER, Nat.zero_le _⟩
      clear HBE hER hN
      dsimp only
      go_upto_region 15 with fail
      refine wp_loop_f 147 (lb6I p W3 (some ⟨bs, o, none⟩) len cap b3 be i (some ⟨ba, 0, none⟩) p.P.length S K N) (fun f _ => N - (intOf (f 9)).toNat) rfl ⟨rfl, rfl, rfl, rfl, rfl, 0, false, Nat.zero_le _, rfl, rfl, HI0⟩ ?_
      clear HI0
      intro F2 V3 hrel
      obtain ⟨f0, f3, f4, f6, f7, k, c, hkN, f8, f9, HST⟩ := hrel
      have H9 := hid_of f9
      rw [frame147, f0, f3, f4, f6, f7, f8, f9]
      clear f0 f3 f4 f6 f7 f8 f9
      have hx3 : W3.Extends V3 := by
        rcases HST.out with ⟨_, s, rn, σ, h, _⟩ | ⟨S', h, _⟩
        · exact h.wx.1
        · exact h.e1.wx.1
      have hC : blk V3 bs = some C := (hx3.blk (blk_lt HCW.out)).trans HCW.out
      clear hx3
      by_cases hkn : (k : Int) < (g i).n
      · have hkN' : k + 1 ≤ N := by have := HN.out; omega
        rcases HST.out with ⟨rfl, s, rn, σ, hER, hkt⟩ | ⟨S', hEK, hcS⟩
        · have hru := hER.running
          have HRU := hid_of hru
          have hro := hER.round HOK.out
          have HRO := hid_of hro
          have hkb : k ≤ 40000 := by
            have h1 := tot_cap HOK.out hER.wx.2.2.1.1.2.1
            have h2 := hER.wx.2.2.2
            have h3 := HOK.out.s2
            omega
          have HKT : Hid (∀ σ', jobsO p s rn σ = some σ' → (anyN σ'.1 (headsOf p s) = true → k + 1 ≤ s + tot (promL σ'.1 (headsOf p s)) p.P.length) ∧ k + 1 ≤ s + 1 + tot (promL σ'.1 (headsOf p s)) p.P.length) := by
            intro σ' hj
            obtain ⟨t1, t2⟩ := tot_round HOK.out hER.wx.2.2.1.1 hj
            exact ⟨fun ha => by have := t2 ha; omega, by omega⟩
          clear hru hro hER HST hkt
          go_wp2_with fail
          refine HRU.out.mono ?_
          rintro e V3' ⟨rfl, e9⟩
          replace e9 := e9.symm
          subst e9
          dsimp only
          clear HRU
          go_wp2_with fail
          refine HRO.out.mono ?_
          intro e V4 hp
          clear HRO
          rcases hp with ⟨_, rfl, h4⟩ | ⟨σ', hj, ⟨ha, rfl, h4⟩ | ⟨_, _, rfl, h4⟩ | ⟨_, _, rfl, h4⟩⟩
          · have HI' : Hid (St6 p W3 be S K false (k + 1) V4) := .inr ⟨S, h4, fun _ => rfl⟩
            clear h4 HKT
            dsimp only
            go_wp2_with fail
            refine ⟨rfl, rfl, ⟨rfl, rfl, rfl, rfl, rfl, k + 1, false, hkN', rfl, ?_, HI'⟩, ?_⟩
            · show Value.int .i64 _ = _
              go_num
            · show N - (intOf (Value.int .i64 _)).toNat < N - (intOf (F2 9)).toNat
              rw [H9.out]
              simp [intOf]; omega
          · have HI' : Hid (St6 p W3 be S K false (k + 1) V4) := .inl ⟨rfl, _, _, _, h4, (HKT.out _ hj).1 ha⟩
            clear h4 HKT hj ha
            dsimp only
            go_wp2_with fail
            refine ⟨rfl, rfl, ⟨rfl, rfl, rfl, rfl, rfl, k + 1, false, hkN', rfl, ?_, HI'⟩, ?_⟩
            · show Value.int .i64 _ = _
              go_num
            · show N - (intOf (Value.int .i64 _)).toNat < N - (intOf (F2 9)).toNat
              rw [H9.out]
              simp [intOf]; omega
          · have HI' : Hid (St6 p W3 be S K false (k + 1) V4) := .inl ⟨rfl, _, _, _, h4, (HKT.out _ hj).2⟩
            clear h4 HKT hj
            dsimp only
            go_wp2_with fail
            refine ⟨rfl, rfl, ⟨rfl, rfl, rfl, rfl, rfl, k + 1, false, hkN', rfl, ?_, HI'⟩, ?_⟩
            · show Value.int .i64 _ = _
              go_num
            · show N - (intOf (Value.int .i64 _)).toNat < N - (intOf (F2 9)).toNat
              rw [H9.out]
              simp [intOf]; omega
          · have HI' : Hid (St6 p W3 be S K true (k + 1) V4) := .inr ⟨_, h4.k, fun h => (by cases h)⟩
            clear h4 HKT hj
            dsimp only
            go_wp2_with fail
            refine ⟨rfl, rfl, ⟨rfl, rfl, rfl, rfl, rfl, k + 1, true, hkN', rfl, ?_, HI'⟩, ?_⟩
            · show Value.int .i64 _ = _
              go_num
            · show N - (intOf (Value.int .i64 _)).toNat < N - (intOf (F2 9)).toNat
              rw [H9.out]
              simp [intOf]; omega
        · have hru := hEK.e1.running
          have HRU := hid_of hru
          have HEK := hid_of hEK
          have HCS := hid_of hcS
          clear hru hEK HST hcS
          go_wp2_with fail
          refine HRU.out.mono ?_
          rintro e V3' ⟨rfl, e9⟩
          replace e9 := e9.symm
          subst e9
          dsimp only
          go_wp2_with fail
          refine HRU.out.mono ?_
          rintro e V4 ⟨rfl, e9⟩
          replace e9 := e9.symm
          subst e9
          dsimp only
          go_wp2_with fail
          refine HRU.out.mono ?_
          rintro e V5 ⟨rfl, e9⟩
          replace e9 := e9.symm
          subst e9
          have hsc := scratch_any HOK.out HEK.out.e1 b3 ((pgX_of HB3.out HPRG.out).ext HEK.out.e1.wx.1)
          have HSC := hid_of hsc
          clear HRU hsc
          dsimp only
          go_wp2_with fail
          refine HSC.out.mono ?_
          rintro e V6 ⟨rfl, e9⟩
          replace e9 := e9.symm
          subst e9
          clear HSC
          dsimp only
          cases c with
          | false =>
            obtain rfl := HCS.out rfl
            have hla := HEK.out.e1.lal HOK.out b3 x0 HB3.out HPL.out
            have HLA := hid_of hla
            clear hla
            go_wp2_with fail
            refine HLA.out.mono ?_
            rintro e V10 ⟨bb, hbb, rfl, hlb⟩
            have hEK10 := HEK.out.ext hlb.1
            have hsr := sameRels_perm V10 (some ⟨bb, 0, none⟩) p.P.length p.P.length (some ⟨ba, 0, none⟩) p.P.length (allT S') (allT S') ((hlb.relN hbb).sub (newc_sub _ _)) (HRK.out.sub hEK10.sub) (by omega) (fun q hq => ⟨List.Perm.refl _, by have := (HEK.out.e1.wx.2.1.1.2.1.at (3 * q)).1; show (rowsAt S' (3 * q)).length ≤ 10000; omega⟩)
            have HSR := hid_of hsr
            have HEK10 := hid_of hEK10
            clear HLA hlb hbb hsr hEK10 HEK
            dsimp only
            go_wp2_with fail
            refine HSR.out.mono ?_
            rintro e V11 ⟨rfl, hx11⟩
            have HEK11 : Hid (E1K p W3 be S' K V11) := HEK10.out.ext hx11
            have hmk := make57 V11 p.P.length (by omega)
            clear HSR hx11 HEK10
            dsimp only
            go_upto_region 29 with fail
            refine wp_world (fun V => LwI V11 K V11.heap.size p.P.length (basT p S') 0 V) ?_ ?_
            · refine ⟨extends_alloc (ext_Ext (Ext.refl _)) _, Nat.le_refl _, [], rfl, ?_, ?_, fun q d hd => by (cases hd)⟩
              · rw [← List.toArray_replicate, blk_alloc, if_pos rfl]; rfl
              · rw [free_alloc, if_pos rfl]
            rintro V12 hI0
            have HI0 := hid_of hI0
            obtain ⟨bo, hbo⟩ : ∃ bo, bo = V11.heap.size := ⟨_, rfl⟩
            rw [← hbo] at HI0 ⊢
            clear hI0 hbo hmk
            refine wp_loop_f 147 (lc6I p V11 K (some ⟨bs, o, none⟩) len cap b3 be i (some ⟨ba, 0, none⟩) p.P.length bo S') (fun f _ => p.P.length - (intOf (f 13)).toNat) rfl ⟨rfl, rfl, rfl, rfl, rfl, rfl, 0, by omega, rfl, HI0⟩ ?_
            clear HI0
            intro F3 V13 hrel
            obtain ⟨f0, f3, f4, f6, f7, f12, q, hq, f13, HIL⟩ := hrel
            have H13 := hid_of f13
            rw [frame147, f0, f3, f4, f6, f7, f12, f13]
            clear f0 f3 f4 f6 f7 f12 f13
            have hek := HEK11.out.ext HIL.out.1
            by_cases hqP : q < p.P.length
            · have hqP' : (q : Int) < (p.P.length : Int) := by omega
              obtain ⟨cP, Cb, CP, bP, e1, e2, e3, e4, e5, e6, e7, -⟩ := pgb_str ((pgX_of HB3.out HPRG.out).ext hek.e1.wx.1) hqP
              obtain ⟨br, Cr, ta, tn, tc, hbr, g1K, g2, -, g3, g4⟩ := rel_at HRK.out hqP
              have hbb : ba = br := by injection hbr with h1; injection h1
              subst hbb
              have g1 := hek.sub _ _ g1K
              have q0 : (0 : Int) ≤ (q : Int) := by omega
              have q2 : ((q : Int)).toNat = q := by omega
              have c1 : q * 3 + 1 < CP.length := by omega
              have c0 : 0 < Cb.length := by omega
              clear hbr g1K hek e7
              cases hb : basP p q with
              | true =>
                rw [hb] at e6
                have hlt : basT p S' q = allT S' q := by unfold basT; rw [if_pos hb]
                obtain ⟨Co, o1, o2, o3, o4, hI'⟩ := HIL.out.put hqP (by rw [hlt]; exact g4 : Rw tpl 4 K ta tn (basT p S' q)) (c := tc)
                have HI' := hid_of hI'
                clear hI' hlt g4 HIL
                go_wp2_with fail
                refine ⟨rfl, rfl, ⟨rfl, rfl, rfl, rfl, rfl, rfl, q + 1, by omega, ?_, HI'⟩, ?_⟩
                · show Value.int .i64 _ = _
                  go_num
                · show p.P.length - (intOf (Value.int .i64 _)).toNat < p.P.length - (intOf (F3 13)).toNat
                  rw [H13.out]
                  simp [intOf]; omega
              | false =>
                rw [hb] at e6
                have hlt : basT p S' q = [] := by unfold basT; rw [if_neg (by rw [hb]; decide)]
                have hI' := HIL.out.skip hqP hlt
                have HI' := hid_of hI'
                clear hI' hlt g4 HIL g1 g2 g3
                go_wp2_with fail
                refine ⟨rfl, rfl, ⟨rfl, rfl, rfl, rfl, rfl, rfl, q + 1, by omega, ?_, HI'⟩, ?_⟩
                · show Value.int .i64 _ = _
                  go_num
                · show p.P.length - (intOf (Value.int .i64 _)).toNat < p.P.length - (intOf (F3 13)).toNat
                  rw [H13.out]
                  simp [intOf]; omega
            · obtain rfl : q = p.P.length := by omega
              have hqP' : ¬ ((p.P.length : Int) < (p.P.length : Int)) := by omega
              obtain ⟨K', hEK', hKK, hKn⟩ := HEK11.out.grow HIL.out.1
              have HRB : Hid (RelR K' (some ⟨bo, 0, none⟩) p.P.length (basT p S')) := HIL.out.fin hKK (fun C hC => hKn _ _ (blk_newc hC HIL.out.2.1))
              have HRA : Hid (RelR K' (some ⟨ba, 0, none⟩) p.P.length (allT S')) := HRK.out.sub hKK
              have hru := hEK'.run HOK.out
              have HRN := hid_of hru
              have HEI := hid_of hEK'.e1.wx.2
              clear hru hEK' hKK hKn HIL hek HEK11
              go_wp2_with fail
              refine HRN.out.mono ?_
              rintro e V14 ⟨r, S2, hrt, hE14, hres⟩
              have hbt := basT_relI HEI.out
              have hpf := perfect_any V14 b3 p ((pgX_of HB3.out HPRG.out).ext hE14.e1.wx.1) HOK.out (some ⟨bo, 0, none⟩) p.P.length (basT p S') (HRB.out.sub hE14.sub) hbt
              have HPF := hid_of hpf
              have HE14 := hid_of hE14
              have HRT := hid_of hrt
              clear HRN hrt hE14 hpf hbt
              rcases hres with ⟨rfl, e2, rfl⟩ | ⟨τ, rfl, rfl, rfl⟩
              · replace e2 := e2.symm
                subst e2
                dsimp only
                go_wp2_with fail
                refine HPF.out.mono ?_
                rintro e V15 ⟨pa, pc, T1, rfl, hx15, hrn15, hri15, hpt⟩
                have hov := over_any V15 pa p.P.length pc T1 (hrn15.sub (newc_sub _ _)) (by omega) (fun q hq => outok_len (hri15 q hq))
                have HOV := hid_of hov
                have HOT : Hid (OvrT p.P.length T1) := by
                  rcases run_perf HOK.out HEI.out (basT_relI HEI.out) (fun _ _ _ => Iff.rfl) HRT.out hpt with ⟨_, h⟩ | ⟨τ, h, _⟩
                  · exact h
                  · cases h
                have HE15 := hid_of (HE14.out.ext hx15)
                clear HPF hx15 hrn15 hri15 hpt hov HE14
                dsimp only
                go_wp2_with fail
                refine HOV.out.mono ?_
                rintro e V16 ⟨b, rfl, hb, hx16⟩
                obtain rfl : b = true := hb.2 HOT.out
                have HE16 := hid_of (HE15.out.ext hx16)
                have hla := HE16.out.e1.lal HOK.out b3 x0 HB3.out HPL.out
                have HLA := hid_of hla
                clear HOV hb hx16 hla HE15
                dsimp only
                go_wp2_with fail
                refine HLA.out.mono ?_
                rintro e V17 ⟨bc, hbc, rfl, hlc⟩
                have hEK17 := HE16.out.ext hlc.1
                have hsr := sameRels_perm V17 (some ⟨bc, 0, none⟩) p.P.length p.P.length (some ⟨ba, 0, none⟩) p.P.length (allT S') (allT S') ((hlc.relN hbc).sub (newc_sub _ _)) (HRA.out.sub hEK17.sub) (by omega) (fun q hq => ⟨List.Perm.refl _, by have := (HEI.out.1.1.2.1.at (3 * q)).1; show (rowsAt S' (3 * q)).length ≤ 10000; omega⟩)
                have HSR := hid_of hsr
                have HE17 := hid_of hEK17
                clear HLA hlc hbc hsr hEK17 HE16
                dsimp only
                go_wp2_with fail
                refine HSR.out.mono ?_
                rintro e V18 ⟨rfl, hx18⟩
                have HE18 := hid_of (HE17.out.ext hx18).e1
                clear HSR hx18 HE17
                dsimp only
                have hru := HE18.out.running
                have HRU := hid_of hru
                have hsc := scratch_any HOK.out HE18.out b3 ((pgX_of HB3.out HPRG.out).ext HE18.out.wx.1)
                have HSC := hid_of hsc
                have HI' : Hid (∃ S, E1 p W3 be S V18) := ⟨_, HE18.out⟩
                clear hru hsc HE18
                go_wp2_with fail
                refine HRU.out.mono ?_
                rintro e V19 ⟨rfl, e9⟩
                replace e9 := e9.symm
                subst e9
                dsimp only
                go_wp2_with fail
                refine HSC.out.mono ?_
                rintro e V20 ⟨rfl, e9⟩
                replace e9 := e9.symm
                subst e9
                clear HRU HSC
                dsimp only
                go_wp2_with fail
                refine ⟨rfl, rfl, ⟨rfl, rfl, rfl, i + 1, by omega, ?_, HI'⟩, ?_⟩
                · show Value.int .i64 _ = _
                  go_num
                · show len - (intOf (Value.int .i64 _)).toNat < len - (intOf (F 6)).toNat
                  rw [H6.out]
                  simp [intOf]; omega
              · dsimp only
                go_wp2_with fail
                refine HPF.out.mono ?_
                rintro e V15 ⟨pa, pc, T1, rfl, hx15, hrn15, hri15, hpt⟩
                have hov := over_any V15 pa p.P.length pc T1 (hrn15.sub (newc_sub _ _)) (by omega) (fun q hq => outok_len (hri15 q hq))
                have HOV := hid_of hov
                have HOT : Hid (¬ OvrT p.P.length T1) := by
                  rcases run_perf HOK.out HEI.out (basT_relI HEI.out) (fun _ _ _ => Iff.rfl) HRT.out hpt with ⟨h, _⟩ | ⟨_, _, _, h⟩
                  · cases h
                  · exact h
                have HE15 := hid_of (HE14.out.ext hx15)
                clear HPF hx15 hrn15 hri15 hpt hov HE14
                dsimp only
                go_wp2_with fail
                refine HOV.out.mono ?_
                rintro e V16 ⟨b, rfl, hb, hx16⟩
                obtain rfl : b = false := by
                  cases b with
                  | false => rfl
                  | true => exact absurd (hb.1 rfl) HOT.out
                have HE18 := hid_of (HE15.out.ext hx16).e1
                clear HOV hb hx16 HE15
                dsimp only
                have hru := HE18.out.running
                have HRU := hid_of hru
                have hsc := scratch_any HOK.out HE18.out b3 ((pgX_of HB3.out HPRG.out).ext HE18.out.wx.1)
                have HSC := hid_of hsc
                have HI' : Hid (∃ S, E1 p W3 be S V16) := ⟨_, HE18.out⟩
                clear hru hsc HE18
                go_wp2_with fail
                refine HRU.out.mono ?_
                rintro e V19 ⟨rfl, e9⟩
                replace e9 := e9.symm
                subst e9
                dsimp only
                go_wp2_with fail
                refine HSC.out.mono ?_
                rintro e V20 ⟨rfl, e9⟩
                replace e9 := e9.symm
                subst e9
                clear HRU HSC
                dsimp only
                go_wp2_with fail
                refine ⟨rfl, rfl, ⟨rfl, rfl, rfl, i + 1, by omega, ?_, HI'⟩, ?_⟩
                · show Value.int .i64 _ = _
                  go_num
                · show len - (intOf (Value.int .i64 _)).toNat < len - (intOf (F 6)).toNat
                  rw [H6.out]
                  simp [intOf]; omega
          | true =>
            have hla := HEK.out.e1.lal HOK.out b3 x0 HB3.out HPL.out
            have HLA := hid_of hla
            clear hla
            go_wp2_with fail
            refine HLA.out.mono ?_
            rintro e V7 ⟨bd, hbd, rfl, hld⟩
            have HEK7 : Hid (E1K p W3 be S' (newc V3.heap.size V7) V7) := HEK.out.e1.grow hld.1
            have HRK7 : Hid (RelR (newc V3.heap.size V7) (some ⟨bd, 0, none⟩) p.P.length (allT S')) := hld.relN hbd
            obtain ⟨K2, hK2⟩ : ∃ K2, K2 = newc V3.heap.size V7 := ⟨_, rfl⟩
            rw [← hK2] at HEK7 HRK7
            clear HLA hld hbd hK2 HEK HRK HCS
            have HEK := HEK7
            have HRK := HRK7
            clear HEK7 HRK7
            dsimp only
            have hla := HEK.out.e1.lal HOK.out b3 x0 HB3.out HPL.out
            have HLA := hid_of hla
            clear hla
            go_wp2_with fail
            refine HLA.out.mono ?_
            rintro e V10 ⟨bb, hbb, rfl, hlb⟩
            have hEK10 := HEK.out.ext hlb.1
            have hsr := sameRels_perm V10 (some ⟨bb, 0, none⟩) p.P.length p.P.length (some ⟨bd, 0, none⟩) p.P.length (allT S') (allT S') ((hlb.relN hbb).sub (newc_sub _ _)) (HRK.out.sub hEK10.sub) (by omega) (fun q hq => ⟨List.Perm.refl _, by have := (HEK.out.e1.wx.2.1.1.2.1.at (3 * q)).1; show (rowsAt S' (3 * q)).length ≤ 10000; omega⟩)
            have HSR := hid_of hsr
            have HEK10 := hid_of hEK10
            clear HLA hlb hbb hsr hEK10 HEK
            dsimp only
            go_wp2_with fail
            refine HSR.out.mono ?_
            rintro e V11 ⟨rfl, hx11⟩
            have HEK11 : Hid (E1K p W3 be S' K2 V11) := HEK10.out.ext hx11
            have hmk := make57 V11 p.P.length (by omega)
            clear HSR hx11 HEK10
            dsimp only
            go_upto_region 29 with fail
            refine wp_world (fun V => LwI V11 K2 V11.heap.size p.P.length (basT p S') 0 V) ?_ ?_
            · refine ⟨extends_alloc (ext_Ext (Ext.refl _)) _, Nat.le_refl _, [], rfl, ?_, ?_, fun q d hd => by (cases hd)⟩
              · rw [← List.toArray_replicate, blk_alloc, if_pos rfl]; rfl
              · rw [free_alloc, if_pos rfl]
            rintro V12 hI0
            have HI0 := hid_of hI0
            obtain ⟨bo, hbo⟩ : ∃ bo, bo = V11.heap.size := ⟨_, rfl⟩
            rw [← hbo] at HI0 ⊢
            clear hI0 hbo hmk
            refine wp_loop_f 147 (lc6I p V11 K2 (some ⟨bs, o, none⟩) len cap b3 be i (some ⟨bd, 0, none⟩) p.P.length bo S') (fun f _ => p.P.length - (intOf (f 13)).toNat) rfl ⟨rfl, rfl, rfl, rfl, rfl, rfl, 0, by omega, rfl, HI0⟩ ?_
            clear HI0
            intro F3 V13 hrel
            obtain ⟨f0, f3, f4, f6, f7, f12, q, hq, f13, HIL⟩ := hrel
            have H13 := hid_of f13
            rw [frame147, f0, f3, f4, f6, f7, f12, f13]
            clear f0 f3 f4 f6 f7 f12 f13
            have hek := HEK11.out.ext HIL.out.1
            by_cases hqP : q < p.P.length
            · have hqP' : (q : Int) < (p.P.length : Int) := by omega
              obtain ⟨cP, Cb, CP, bP, e1, e2, e3, e4, e5, e6, e7, -⟩ := pgb_str ((pgX_of HB3.out HPRG.out).ext hek.e1.wx.1) hqP
              obtain ⟨br, Cr, ta, tn, tc, hbr, g1K, g2, -, g3, g4⟩ := rel_at HRK.out hqP
              have hbb : bd = br := by injection hbr with h1; injection h1
              subst hbb
              have g1 := hek.sub _ _ g1K
              have q0 : (0 : Int) ≤ (q : Int) := by omega
              have q2 : ((q : Int)).toNat = q := by omega
              have c1 : q * 3 + 1 < CP.length := by omega
              have c0 : 0 < Cb.length := by omega
              clear hbr g1K hek e7
              cases hb : basP p q with
              | true =>
                rw [hb] at e6
                have hlt : basT p S' q = allT S' q := by unfold basT; rw [if_pos hb]
                obtain ⟨Co, o1, o2, o3, o4, hI'⟩ := HIL.out.put hqP (by rw [hlt]; exact g4 : Rw tpl 4 K2 ta tn (basT p S' q)) (c := tc)
                have HI' := hid_of hI'
                clear hI' hlt g4 HIL
                go_wp2_with fail
                refine ⟨rfl, rfl, ⟨rfl, rfl, rfl, rfl, rfl, rfl, q + 1, by omega, ?_, HI'⟩, ?_⟩
                · show Value.int .i64 _ = _
                  go_num
                · show p.P.length - (intOf (Value.int .i64 _)).toNat < p.P.length - (intOf (F3 13)).toNat
                  rw [H13.out]
                  simp [intOf]; omega
              | false =>
                rw [hb] at e6
                have hlt : basT p S' q = [] := by unfold basT; rw [if_neg (by rw [hb]; decide)]
                have hI' := HIL.out.skip hqP hlt
                have HI' := hid_of hI'
                clear hI' hlt g4 HIL g1 g2 g3
                go_wp2_with fail
                refine ⟨rfl, rfl, ⟨rfl, rfl, rfl, rfl, rfl, rfl, q + 1, by omega, ?_, HI'⟩, ?_⟩
                · show Value.int .i64 _ = _
                  go_num
                · show p.P.length - (intOf (Value.int .i64 _)).toNat < p.P.length - (intOf (F3 13)).toNat
                  rw [H13.out]
                  simp [intOf]; omega
            · obtain rfl : q = p.P.length := by omega
              have hqP' : ¬ ((p.P.length : Int) < (p.P.length : Int)) := by omega
              obtain ⟨K', hEK', hKK, hKn⟩ := HEK11.out.grow HIL.out.1
              have HRB : Hid (RelR K' (some ⟨bo, 0, none⟩) p.P.length (basT p S')) := HIL.out.fin hKK (fun C hC => hKn _ _ (blk_newc hC HIL.out.2.1))
              have HRA : Hid (RelR K' (some ⟨bd, 0, none⟩) p.P.length (allT S')) := HRK.out.sub hKK
              have hru := hEK'.run HOK.out
              have HRN := hid_of hru
              have HEI := hid_of hEK'.e1.wx.2
              clear hru hEK' hKK hKn HIL hek HEK11
              go_wp2_with fail
              refine HRN.out.mono ?_
              rintro e V14 ⟨r, S2, hrt, hE14, hres⟩
              have hbt := basT_relI HEI.out
              have hpf := perfect_any V14 b3 p ((pgX_of HB3.out HPRG.out).ext hE14.e1.wx.1) HOK.out (some ⟨bo, 0, none⟩) p.P.length (basT p S') (HRB.out.sub hE14.sub) hbt
              have HPF := hid_of hpf
              have HE14 := hid_of hE14
              have HRT := hid_of hrt
              clear HRN hrt hE14 hpf hbt
              rcases hres with ⟨rfl, e2, rfl⟩ | ⟨τ, rfl, rfl, rfl⟩
              · replace e2 := e2.symm
                subst e2
                dsimp only
                go_wp2_with fail
                refine HPF.out.mono ?_
                rintro e V15 ⟨pa, pc, T1, rfl, hx15, hrn15, hri15, hpt⟩
                have hov := over_any V15 pa p.P.length pc T1 (hrn15.sub (newc_sub _ _)) (by omega) (fun q hq => outok_len (hri15 q hq))
                have HOV := hid_of hov
                have HOT : Hid (OvrT p.P.length T1) := by
                  rcases run_perf HOK.out HEI.out (basT_relI HEI.out) (fun _ _ _ => Iff.rfl) HRT.out hpt with ⟨_, h⟩ | ⟨τ, h, _⟩
                  · exact h
                  · cases h
                have HE15 := hid_of (HE14.out.ext hx15)
                clear HPF hx15 hrn15 hri15 hpt hov HE14
                dsimp only
                go_wp2_with fail
                refine HOV.out.mono ?_
                rintro e V16 ⟨b, rfl, hb, hx16⟩
                obtain rfl : b = true := hb.2 HOT.out
                have HE16 := hid_of (HE15.out.ext hx16)
                have hla := HE16.out.e1.lal HOK.out b3 x0 HB3.out HPL.out
                have HLA := hid_of hla
                clear HOV hb hx16 hla HE15
                dsimp only
                go_wp2_with fail
                refine HLA.out.mono ?_
                rintro e V17 ⟨bc, hbc, rfl, hlc⟩
                have hEK17 := HE16.out.ext hlc.1
                have hsr := sameRels_perm V17 (some ⟨bc, 0, none⟩) p.P.length p.P.length (some ⟨bd, 0, none⟩) p.P.length (allT S') (allT S') ((hlc.relN hbc).sub (newc_sub _ _)) (HRA.out.sub hEK17.sub) (by omega) (fun q hq => ⟨List.Perm.refl _, by have := (HEI.out.1.1.2.1.at (3 * q)).1; show (rowsAt S' (3 * q)).length ≤ 10000; omega⟩)
                have HSR := hid_of hsr
                have HE17 := hid_of hEK17
                clear HLA hlc hbc hsr hEK17 HE16
                dsimp only
                go_wp2_with fail
                refine HSR.out.mono ?_
                rintro e V18 ⟨rfl, hx18⟩
                have HE18 := hid_of (HE17.out.ext hx18).e1
                clear HSR hx18 HE17
                dsimp only
                have hru := HE18.out.running
                have HRU := hid_of hru
                have hsc := scratch_any HOK.out HE18.out b3 ((pgX_of HB3.out HPRG.out).ext HE18.out.wx.1)
                have HSC := hid_of hsc
                have HI' : Hid (∃ S, E1 p W3 be S V18) := ⟨_, HE18.out⟩
                clear hru hsc HE18
                go_wp2_with fail
                refine HRU.out.mono ?_
                rintro e V19 ⟨rfl, e9⟩
                replace e9 := e9.symm
                subst e9
                dsimp only
                go_wp2_with fail
                refine HSC.out.mono ?_
                rintro e V20 ⟨rfl, e9⟩
                replace e9 := e9.symm
                subst e9
                clear HRU HSC
                dsimp only
                go_wp2_with fail
                refine ⟨rfl, rfl, ⟨rfl, rfl, rfl, i + 1, by omega, ?_, HI'⟩, ?_⟩
                · show Value.int .i64 _ = _
                  go_num
                · show len - (intOf (Value.int .i64 _)).toNat < len - (intOf (F 6)).toNat
                  rw [H6.out]
                  simp [intOf]; omega
              · dsimp only
                go_wp2_with fail
                refine HPF.out.mono ?_
                rintro e V15 ⟨pa, pc, T1, rfl, hx15, hrn15, hri15, hpt⟩
                have hov := over_any V15 pa p.P.length pc T1 (hrn15.sub (newc_sub _ _)) (by omega) (fun q hq => outok_len (hri15 q hq))
                have HOV := hid_of hov
                have HOT : Hid (¬ OvrT p.P.length T1) := by
                  rcases run_perf HOK.out HEI.out (basT_relI HEI.out) (fun _ _ _ => Iff.rfl) HRT.out hpt with ⟨h, _⟩ | ⟨_, _, _, h⟩
                  · cases h
                  · exact h
                have HE15 := hid_of (HE14.out.ext hx15)
                clear HPF hx15 hrn15 hri15 hpt hov HE14
                dsimp only
                go_wp2_with fail
                refine HOV.out.mono ?_
                rintro e V16 ⟨b, rfl, hb, hx16⟩
                obtain rfl : b = false := by
                  cases b with
                  | false => rfl
                  | true => exact absurd (hb.1 rfl) HOT.out
                have HE18 := hid_of (HE15.out.ext hx16).e1
                clear HOV hb hx16 HE15
                dsimp only
                have hru := HE18.out.running
                have HRU := hid_of hru
                have hsc := scratch_any HOK.out HE18.out b3 ((pgX_of HB3.out HPRG.out).ext HE18.out.wx.1)
                have HSC := hid_of hsc
                have HI' : Hid (∃ S, E1 p W3 be S V16) := ⟨_, HE18.out⟩
                clear hru hsc HE18
                go_wp2_with fail
                refine HRU.out.mono ?_
                rintro e V19 ⟨rfl, e9⟩
                replace e9 := e9.symm
                subst e9
                dsimp only
                go_wp2_with fail
                refine HSC.out.mono ?_
                rintro e V20 ⟨rfl, e9⟩
                replace e9 := e9.symm
                subst e9
                clear HRU HSC
                dsimp only
                go_wp2_with fail
                refine ⟨rfl, rfl, ⟨rfl, rfl, rfl, i + 1, by omega, ?_, HI'⟩, ?_⟩
                · show Value.int .i64 _ = _
                  go_num
                · show len - (intOf (Value.int .i64 _)).toNat < len - (intOf (F 6)).toNat
                  rw [H6.out]
                  simp [intOf]; omega
      · rcases HST.out with ⟨rfl, s, rn, σ, hER, hkt⟩ | ⟨S', hEK, hcS⟩
        · have hru := hER.running
          have HRU := hid_of hru
          have hca := hER.cancel HOK.out
          have HCA := hid_of hca
          clear hru hca hER HST hkt
          go_wp2_with fail
          refine HRU.out.mono ?_
          rintro e V3' ⟨rfl, e9⟩
          replace e9 := e9.symm
          subst e9
          clear HRU
          dsimp only
          go_wp2_with fail
          refine HCA.out.mono ?_
          rintro e V4 ⟨rfl, hEK⟩
          have hru := hEK.e1.running
          have HRU := hid_of hru
          have HEK := hid_of hEK
          clear HCA hru hEK hC
          dsimp only
          go_wp2_with fail
          refine HRU.out.mono ?_
          rintro e V5 ⟨rfl, e9⟩
          replace e9 := e9.symm
          subst e9
          have hsc := scratch_any HOK.out HEK.out.e1 b3 ((pgX_of HB3.out HPRG.out).ext HEK.out.e1.wx.1)
          have HSC := hid_of hsc
          clear HRU hsc
          dsimp only
          go_wp2_with fail
          refine HSC.out.mono ?_
          rintro e V6 ⟨rfl, e9⟩
          replace e9 := e9.symm
          subst e9
          clear HSC
          dsimp only
          have hla := HEK.out.e1.lal HOK.out b3 x0 HB3.out HPL.out
          have HLA := hid_of hla
          clear hla
          go_wp2_with fail
          refine HLA.out.mono ?_
          rintro e V10 ⟨bb, hbb, rfl, hlb⟩
          have hEK10 := HEK.out.ext hlb.1
          have hsr := sameRels_perm V10 (some ⟨bb, 0, none⟩) p.P.length p.P.length (some ⟨ba, 0, none⟩) p.P.length (allT S) (allT S) ((hlb.relN hbb).sub (newc_sub _ _)) (HRK.out.sub hEK10.sub) (by omega) (fun q hq => ⟨List.Perm.refl _, by have := (HEK.out.e1.wx.2.1.1.2.1.at (3 * q)).1; show (rowsAt S (3 * q)).length ≤ 10000; omega⟩)
          have HSR := hid_of hsr
          have HEK10 := hid_of hEK10
          clear HLA hlb hbb hsr hEK10 HEK
          dsimp only
          go_wp2_with fail
          refine HSR.out.mono ?_
          rintro e V11 ⟨rfl, hx11⟩
          have HEK11 : Hid (E1K p W3 be S K V11) := HEK10.out.ext hx11
          have hmk := make57 V11 p.P.length (by omega)
          clear HSR hx11 HEK10
          dsimp only
          go_upto_region 29 with fail
          refine wp_world (fun V => LwI V11 K V11.heap.size p.P.length (basT p S) 0 V) ?_ ?_
          · refine ⟨extends_alloc (ext_Ext (Ext.refl _)) _, Nat.le_refl _, [], rfl, ?_, ?_, fun q d hd => by (cases hd)⟩
            · rw [← List.toArray_replicate, blk_alloc, if_pos rfl]; rfl
            · rw [free_alloc, if_pos rfl]
          rintro V12 hI0
          have HI0 := hid_of hI0
          obtain ⟨bo, hbo⟩ : ∃ bo, bo = V11.heap.size := ⟨_, rfl⟩
          rw [← hbo] at HI0 ⊢
          clear hI0 hbo hmk
          refine wp_loop_f 147 (lc6I p V11 K (some ⟨bs, o, none⟩) len cap b3 be i (some ⟨ba, 0, none⟩) p.P.length bo S) (fun f _ => p.P.length - (intOf (f 13)).toNat) rfl ⟨rfl, rfl, rfl, rfl, rfl, rfl, 0, by omega, rfl, HI0⟩ ?_
          clear HI0
          intro F3 V13 hrel
          obtain ⟨f0, f3, f4, f6, f7, f12, q, hq, f13, HIL⟩ := hrel
          have H13 := hid_of f13
          rw [frame147, f0, f3, f4, f6, f7, f12, f13]
          clear f0 f3 f4 f6 f7 f12 f13
          have hek := HEK11.out.ext HIL.out.1
          by_cases hqP : q < p.P.length
          · have hqP' : (q : Int) < (p.P.length : Int) := by omega
            obtain ⟨cP, Cb, CP, bP, e1, e2, e3, e4, e5, e6, e7, -⟩ := pgb_str ((pgX_of HB3.out HPRG.out).ext hek.e1.wx.1) hqP
            obtain ⟨br, Cr, ta, tn, tc, hbr, g1K, g2, -, g3, g4⟩ := rel_at HRK.out hqP
            have hbb : ba = br := by injection hbr with h1; injection h1
            subst hbb
            have g1 := hek.sub _ _ g1K
            have q0 : (0 : Int) ≤ (q : Int) := by omega
            have q2 : ((q : Int)).toNat = q := by omega
            have c1 : q * 3 + 1 < CP.length := by omega
            have c0 : 0 < Cb.length := by omega
            clear hbr g1K hek e7
            cases hb : basP p q with
            | true =>
              rw [hb] at e6
              have hlt : basT p S q = allT S q := by unfold basT; rw [if_pos hb]
              obtain ⟨Co, o1, o2, o3, o4, hI'⟩ := HIL.out.put hqP (by rw [hlt]; exact g4 : Rw tpl 4 K ta tn (basT p S q)) (c := tc)
              have HI' := hid_of hI'
              clear hI' hlt g4 HIL
              go_wp2_with fail
              refine ⟨rfl, rfl, ⟨rfl, rfl, rfl, rfl, rfl, rfl, q + 1, by omega, ?_, HI'⟩, ?_⟩
              · show Value.int .i64 _ = _
                go_num
              · show p.P.length - (intOf (Value.int .i64 _)).toNat < p.P.length - (intOf (F3 13)).toNat
                rw [H13.out]
                simp [intOf]; omega
            | false =>
              rw [hb] at e6
              have hlt : basT p S q = [] := by unfold basT; rw [if_neg (by rw [hb]; decide)]
              have hI' := HIL.out.skip hqP hlt
              have HI' := hid_of hI'
              clear hI' hlt g4 HIL g1 g2 g3
              go_wp2_with fail
              refine ⟨rfl, rfl, ⟨rfl, rfl, rfl, rfl, rfl, rfl, q + 1, by omega, ?_, HI'⟩, ?_⟩
              · show Value.int .i64 _ = _
                go_num
              · show p.P.length - (intOf (Value.int .i64 _)).toNat < p.P.length - (intOf (F3 13)).toNat
                rw [H13.out]
                simp [intOf]; omega
          · obtain rfl : q = p.P.length := by omega
            have hqP' : ¬ ((p.P.length : Int) < (p.P.length : Int)) := by omega
            obtain ⟨K', hEK', hKK, hKn⟩ := HEK11.out.grow HIL.out.1
            have HRB : Hid (RelR K' (some ⟨bo, 0, none⟩) p.P.length (basT p S)) := HIL.out.fin hKK (fun C hC => hKn _ _ (blk_newc hC HIL.out.2.1))
            have HRA : Hid (RelR K' (some ⟨ba, 0, none⟩) p.P.length (allT S)) := HRK.out.sub hKK
            have hru := hEK'.run HOK.out
            have HRN := hid_of hru
            have HEI := hid_of hEK'.e1.wx.2
            clear hru hEK' hKK hKn HIL hek HEK11
            go_wp2_with fail
            refine HRN.out.mono ?_
            rintro e V14 ⟨r, S2, hrt, hE14, hres⟩
            have hbt := basT_relI HEI.out
            have hpf := perfect_any V14 b3 p ((pgX_of HB3.out HPRG.out).ext hE14.e1.wx.1) HOK.out (some ⟨bo, 0, none⟩) p.P.length (basT p S) (HRB.out.sub hE14.sub) hbt
            have HPF := hid_of hpf
            have HE14 := hid_of hE14
            have HRT := hid_of hrt
            clear HRN hrt hE14 hpf hbt
            rcases hres with ⟨rfl, e2, rfl⟩ | ⟨τ, rfl, rfl, rfl⟩
            · replace e2 := e2.symm
              subst e2
              dsimp only
              go_wp2_with fail
              refine HPF.out.mono ?_
              rintro e V15 ⟨pa, pc, T1, rfl, hx15, hrn15, hri15, hpt⟩
              have hov := over_any V15 pa p.P.length pc T1 (hrn15.sub (newc_sub _ _)) (by omega) (fun q hq => outok_len (hri15 q hq))
              have HOV := hid_of hov
              have HOT : Hid (OvrT p.P.length T1) := by
                rcases run_perf HOK.out HEI.out (basT_relI HEI.out) (fun _ _ _ => Iff.rfl) HRT.out hpt with ⟨_, h⟩ | ⟨τ, h, _⟩
                · exact h
                · cases h
              have HE15 := hid_of (HE14.out.ext hx15)
              clear HPF hx15 hrn15 hri15 hpt hov HE14
              dsimp only
              go_wp2_with fail
              refine HOV.out.mono ?_
              rintro e V16 ⟨b, rfl, hb, hx16⟩
              obtain rfl : b = true := hb.2 HOT.out
              have HE16 := hid_of (HE15.out.ext hx16)
              have hla := HE16.out.e1.lal HOK.out b3 x0 HB3.out HPL.out
              have HLA := hid_of hla
              clear HOV hb hx16 hla HE15
              dsimp only
              go_wp2_with fail
              refine HLA.out.mono ?_
              rintro e V17 ⟨bc, hbc, rfl, hlc⟩
              have hEK17 := HE16.out.ext hlc.1
              have hsr := sameRels_perm V17 (some ⟨bc, 0, none⟩) p.P.length p.P.length (some ⟨ba, 0, none⟩) p.P.length (allT S) (allT S) ((hlc.relN hbc).sub (newc_sub _ _)) (HRA.out.sub hEK17.sub) (by omega) (fun q hq => ⟨List.Perm.refl _, by have := (HEI.out.1.1.2.1.at (3 * q)).1; show (rowsAt S (3 * q)).length ≤ 10000; omega⟩)
              have HSR := hid_of hsr
              have HE17 := hid_of hEK17
              clear HLA hlc hbc hsr hEK17 HE16
              dsimp only
              go_wp2_with fail
              refine HSR.out.mono ?_
              rintro e V18 ⟨rfl, hx18⟩
              have HE18 := hid_of (HE17.out.ext hx18).e1
              clear HSR hx18 HE17
              dsimp only
              have hru := HE18.out.running
              have HRU := hid_of hru
              have hsc := scratch_any HOK.out HE18.out b3 ((pgX_of HB3.out HPRG.out).ext HE18.out.wx.1)
              have HSC := hid_of hsc
              have HI' : Hid (∃ S, E1 p W3 be S V18) := ⟨_, HE18.out⟩
              clear hru hsc HE18
              go_wp2_with fail
              refine HRU.out.mono ?_
              rintro e V19 ⟨rfl, e9⟩
              replace e9 := e9.symm
              subst e9
              dsimp only
              go_wp2_with fail
              refine HSC.out.mono ?_
              rintro e V20 ⟨rfl, e9⟩
              replace e9 := e9.symm
              subst e9
              clear HRU HSC
              dsimp only
              go_wp2_with fail
              refine ⟨rfl, rfl, ⟨rfl, rfl, rfl, i + 1, by omega, ?_, HI'⟩, ?_⟩
              · show Value.int .i64 _ = _
                go_num
              · show len - (intOf (Value.int .i64 _)).toNat < len - (intOf (F 6)).toNat
                rw [H6.out]
                simp [intOf]; omega
            · dsimp only
              go_wp2_with fail
              refine HPF.out.mono ?_
              rintro e V15 ⟨pa, pc, T1, rfl, hx15, hrn15, hri15, hpt⟩
              have hov := over_any V15 pa p.P.length pc T1 (hrn15.sub (newc_sub _ _)) (by omega) (fun q hq => outok_len (hri15 q hq))
              have HOV := hid_of hov
              have HOT : Hid (¬ OvrT p.P.length T1) := by
                rcases run_perf HOK.out HEI.out (basT_relI HEI.out) (fun _ _ _ => Iff.rfl) HRT.out hpt with ⟨h, _⟩ | ⟨_, _, _, h⟩
                · cases h
                · exact h
              have HE15 := hid_of (HE14.out.ext hx15)
              clear HPF hx15 hrn15 hri15 hpt hov HE14
              dsimp only
              go_wp2_with fail
              refine HOV.out.mono ?_
              rintro e V16 ⟨b, rfl, hb, hx16⟩
              obtain rfl : b = false := by
                cases b with
                | false => rfl
                | true => exact absurd (hb.1 rfl) HOT.out
              have HE18 := hid_of (HE15.out.ext hx16).e1
              clear HOV hb hx16 HE15
              dsimp only
              have hru := HE18.out.running
              have HRU := hid_of hru
              have hsc := scratch_any HOK.out HE18.out b3 ((pgX_of HB3.out HPRG.out).ext HE18.out.wx.1)
              have HSC := hid_of hsc
              have HI' : Hid (∃ S, E1 p W3 be S V16) := ⟨_, HE18.out⟩
              clear hru hsc HE18
              go_wp2_with fail
              refine HRU.out.mono ?_
              rintro e V19 ⟨rfl, e9⟩
              replace e9 := e9.symm
              subst e9
              dsimp only
              go_wp2_with fail
              refine HSC.out.mono ?_
              rintro e V20 ⟨rfl, e9⟩
              replace e9 := e9.symm
              subst e9
              clear HRU HSC
              dsimp only
              go_wp2_with fail
              refine ⟨rfl, rfl, ⟨rfl, rfl, rfl, i + 1, by omega, ?_, HI'⟩, ?_⟩
              · show Value.int .i64 _ = _
                go_num
              · show len - (intOf (Value.int .i64 _)).toNat < len - (intOf (F 6)).toNat
                rw [H6.out]
                simp [intOf]; omega
        · have hru := hEK.e1.running
          have HRU := hid_of hru
          have HEK := hid_of hEK
          have HCS := hid_of hcS
          clear hru hEK HST hcS
          go_wp2_with fail
          refine HRU.out.mono ?_
          rintro e V4 ⟨rfl, e9⟩
          replace e9 := e9.symm
          subst e9
          dsimp only
          go_wp2_with fail
          refine HRU.out.mono ?_
          rintro e V5 ⟨rfl, e9⟩
          replace e9 := e9.symm
          subst e9
          have hsc := scratch_any HOK.out HEK.out.e1 b3 ((pgX_of HB3.out HPRG.out).ext HEK.out.e1.wx.1)
          have HSC := hid_of hsc
          clear HRU hsc
          dsimp only
          go_wp2_with fail
          refine HSC.out.mono ?_
          rintro e V6 ⟨rfl, e9⟩
          replace e9 := e9.symm
          subst e9
          clear HSC
          dsimp only
          cases c with
          | false =>
            obtain rfl := HCS.out rfl
            have hla := HEK.out.e1.lal HOK.out b3 x0 HB3.out HPL.out
            have HLA := hid_of hla
            clear hla
            go_wp2_with fail
            refine HLA.out.mono ?_
            rintro e V10 ⟨bb, hbb, rfl, hlb⟩
            have hEK10 := HEK.out.ext hlb.1
            have hsr := sameRels_perm V10 (some ⟨bb, 0, none⟩) p.P.length p.P.length (some ⟨ba, 0, none⟩) p.P.length (allT S') (allT S') ((hlb.relN hbb).sub (newc_sub _ _)) (HRK.out.sub hEK10.sub) (by omega) (fun q hq => ⟨List.Perm.refl _, by have := (HEK.out.e1.wx.2.1.1.2.1.at (3 * q)).1; show (rowsAt S' (3 * q)).length ≤ 10000; omega⟩)
            have HSR := hid_of hsr
            have HEK10 := hid_of hEK10
            clear HLA hlb hbb hsr hEK10 HEK
            dsimp only
            go_wp2_with fail
            refine HSR.out.mono ?_
            rintro e V11 ⟨rfl, hx11⟩
            have HEK11 : Hid (E1K p W3 be S' K V11) := HEK10.out.ext hx11
            have hmk := make57 V11 p.P.length (by omega)
            clear HSR hx11 HEK10
            dsimp only
            go_upto_region 29 with fail
            refine wp_world (fun V => LwI V11 K V11.heap.size p.P.length (basT p S') 0 V) ?_ ?_
            · refine ⟨extends_alloc (ext_Ext (Ext.refl _)) _, Nat.le_refl _, [], rfl, ?_, ?_, fun q d hd => by (cases hd)⟩
              · rw [← List.toArray_replicate, blk_alloc, if_pos rfl]; rfl
              · rw [free_alloc, if_pos rfl]
            rintro V12 hI0
            have HI0 := hid_of hI0
            obtain ⟨bo, hbo⟩ : ∃ bo, bo = V11.heap.size := ⟨_, rfl⟩
            rw [← hbo] at HI0 ⊢
            clear hI0 hbo hmk
            refine wp_loop_f 147 (lc6I p V11 K (some ⟨bs, o, none⟩) len cap b3 be i (some ⟨ba, 0, none⟩) p.P.length bo S') (fun f _ => p.P.length - (intOf (f 13)).toNat) rfl ⟨rfl, rfl, rfl, rfl, rfl, rfl, 0, by omega, rfl, HI0⟩ ?_
            clear HI0
            intro F3 V13 hrel
            obtain ⟨f0, f3, f4, f6, f7, f12, q, hq, f13, HIL⟩ := hrel
            have H13 := hid_of f13
            rw [frame147, f0, f3, f4, f6, f7, f12, f13]
            clear f0 f3 f4 f6 f7 f12 f13
            have hek := HEK11.out.ext HIL.out.1
            by_cases hqP : q < p.P.length
            · have hqP' : (q : Int) < (p.P.length : Int) := by omega
              obtain ⟨cP, Cb, CP, bP, e1, e2, e3, e4, e5, e6, e7, -⟩ := pgb_str ((pgX_of HB3.out HPRG.out).ext hek.e1.wx.1) hqP
              obtain ⟨br, Cr, ta, tn, tc, hbr, g1K, g2, -, g3, g4⟩ := rel_at HRK.out hqP
              have hbb : ba = br := by injection hbr with h1; injection h1
              subst hbb
              have g1 := hek.sub _ _ g1K
              have q0 : (0 : Int) ≤ (q : Int) := by omega
              have q2 : ((q : Int)).toNat = q := by omega
              have c1 : q * 3 + 1 < CP.length := by omega
              have c0 : 0 < Cb.length := by omega
              clear hbr g1K hek e7
              cases hb : basP p q with
              | true =>
                rw [hb] at e6
                have hlt : basT p S' q = allT S' q := by unfold basT; rw [if_pos hb]
                obtain ⟨Co, o1, o2, o3, o4, hI'⟩ := HIL.out.put hqP (by rw [hlt]; exact g4 : Rw tpl 4 K ta tn (basT p S' q)) (c := tc)
                have HI' := hid_of hI'
                clear hI' hlt g4 HIL
                go_wp2_with fail
                refine ⟨rfl, rfl, ⟨rfl, rfl, rfl, rfl, rfl, rfl, q + 1, by omega, ?_, HI'⟩, ?_⟩
                · show Value.int .i64 _ = _
                  go_num
                · show p.P.length - (intOf (Value.int .i64 _)).toNat < p.P.length - (intOf (F3 13)).toNat
                  rw [H13.out]
                  simp [intOf]; omega
              | false =>
                rw [hb] at e6
                have hlt : basT p S' q = [] := by unfold basT; rw [if_neg (by rw [hb]; decide)]
                have hI' := HIL.out.skip hqP hlt
                have HI' := hid_of hI'
                clear hI' hlt g4 HIL g1 g2 g3
                go_wp2_with fail
                refine ⟨rfl, rfl, ⟨rfl, rfl, rfl, rfl, rfl, rfl, q + 1, by omega, ?_, HI'⟩, ?_⟩
                · show Value.int .i64 _ = _
                  go_num
                · show p.P.length - (intOf (Value.int .i64 _)).toNat < p.P.length - (intOf (F3 13)).toNat
                  rw [H13.out]
                  simp [intOf]; omega
            · obtain rfl : q = p.P.length := by omega
              have hqP' : ¬ ((p.P.length : Int) < (p.P.length : Int)) := by omega
              obtain ⟨K', hEK', hKK, hKn⟩ := HEK11.out.grow HIL.out.1
              have HRB : Hid (RelR K' (some ⟨bo, 0, none⟩) p.P.length (basT p S')) := HIL.out.fin hKK (fun C hC => hKn _ _ (blk_newc hC HIL.out.2.1))
              have HRA : Hid (RelR K' (some ⟨ba, 0, none⟩) p.P.length (allT S')) := HRK.out.sub hKK
              have hru := hEK'.run HOK.out
              have HRN := hid_of hru
              have HEI := hid_of hEK'.e1.wx.2
              clear hru hEK' hKK hKn HIL hek HEK11
              go_wp2_with fail
              refine HRN.out.mono ?_
              rintro e V14 ⟨r, S2, hrt, hE14, hres⟩
              have hbt := basT_relI HEI.out
              have hpf := perfect_any V14 b3 p ((pgX_of HB3.out HPRG.out).ext hE14.e1.wx.1) HOK.out (some ⟨bo, 0, none⟩) p.P.length (basT p S') (HRB.out.sub hE14.sub) hbt
              have HPF := hid_of hpf
              have HE14 := hid_of hE14
              have HRT := hid_of hrt
              clear HRN hrt hE14 hpf hbt
              rcases hres with ⟨rfl, e2, rfl⟩ | ⟨τ, rfl, rfl, rfl⟩
              · replace e2 := e2.symm
                subst e2
                dsimp only
                go_wp2_with fail
                refine HPF.out.mono ?_
                rintro e V15 ⟨pa, pc, T1, rfl, hx15, hrn15, hri15, hpt⟩
                have hov := over_any V15 pa p.P.length pc T1 (hrn15.sub (newc_sub _ _)) (by omega) (fun q hq => outok_len (hri15 q hq))
                have HOV := hid_of hov
                have HOT : Hid (OvrT p.P.length T1) := by
                  rcases run_perf HOK.out HEI.out (basT_relI HEI.out) (fun _ _ _ => Iff.rfl) HRT.out hpt with ⟨_, h⟩ | ⟨τ, h, _⟩
                  · exact h
                  · cases h
                have HE15 := hid_of (HE14.out.ext hx15)
                clear HPF hx15 hrn15 hri15 hpt hov HE14
                dsimp only
                go_wp2_with fail
                refine HOV.out.mono ?_
                rintro e V16 ⟨b, rfl, hb, hx16⟩
                obtain rfl : b = true := hb.2 HOT.out
                have HE16 := hid_of (HE15.out.ext hx16)
                have hla := HE16.out.e1.lal HOK.out b3 x0 HB3.out HPL.out
                have HLA := hid_of hla
                clear HOV hb hx16 hla HE15
                dsimp only
                go_wp2_with fail
                refine HLA.out.mono ?_
                rintro e V17 ⟨bc, hbc, rfl, hlc⟩
                have hEK17 := HE16.out.ext hlc.1
                have hsr := sameRels_perm V17 (some ⟨bc, 0, none⟩) p.P.length p.P.length (some ⟨ba, 0, none⟩) p.P.length (allT S') (allT S') ((hlc.relN hbc).sub (newc_sub _ _)) (HRA.out.sub hEK17.sub) (by omega) (fun q hq => ⟨List.Perm.refl _, by have := (HEI.out.1.1.2.1.at (3 * q)).1; show (rowsAt S' (3 * q)).length ≤ 10000; omega⟩)
                have HSR := hid_of hsr
                have HE17 := hid_of hEK17
                clear HLA hlc hbc hsr hEK17 HE16
                dsimp only
                go_wp2_with fail
                refine HSR.out.mono ?_
                rintro e V18 ⟨rfl, hx18⟩
                have HE18 := hid_of (HE17.out.ext hx18).e1
                clear HSR hx18 HE17
                dsimp only
                have hru := HE18.out.running
                have HRU := hid_of hru
                have hsc := scratch_any HOK.out HE18.out b3 ((pgX_of HB3.out HPRG.out).ext HE18.out.wx.1)
                have HSC := hid_of hsc
                have HI' : Hid (∃ S, E1 p W3 be S V18) := ⟨_, HE18.out⟩
                clear hru hsc HE18
                go_wp2_with fail
                refine HRU.out.mono ?_
                rintro e V19 ⟨rfl, e9⟩
                replace e9 := e9.symm
                subst e9
                dsimp only
                go_wp2_with fail
                refine HSC.out.mono ?_
                rintro e V20 ⟨rfl, e9⟩
                replace e9 := e9.symm
                subst e9
                clear HRU HSC
                dsimp only
                go_wp2_with fail
                refine ⟨rfl, rfl, ⟨rfl, rfl, rfl, i + 1, by omega, ?_, HI'⟩, ?_⟩
                · show Value.int .i64 _ = _
                  go_num
                · show len - (intOf (Value.int .i64 _)).toNat < len - (intOf (F 6)).toNat
                  rw [H6.out]
                  simp [intOf]; omega
              · dsimp only
                go_wp2_with fail
                refine HPF.out.mono ?_
                rintro e V15 ⟨pa, pc, T1, rfl, hx15, hrn15, hri15, hpt⟩
                have hov := over_any V15 pa p.P.length pc T1 (hrn15.sub (newc_sub _ _)) (by omega) (fun q hq => outok_len (hri15 q hq))
                have HOV := hid_of hov
                have HOT : Hid (¬ OvrT p.P.length T1) := by
                  rcases run_perf HOK.out HEI.out (basT_relI HEI.out) (fun _ _ _ => Iff.rfl) HRT.out hpt with ⟨h, _⟩ | ⟨_, _, _, h⟩
                  · cases h
                  · exact h
                have HE15 := hid_of (HE14.out.ext hx15)
                clear HPF hx15 hrn15 hri15 hpt hov HE14
                dsimp only
                go_wp2_with fail
                refine HOV.out.mono ?_
                rintro e V16 ⟨b, rfl, hb, hx16⟩
                obtain rfl : b = false := by
                  cases b with
                  | false => rfl
                  | true => exact absurd (hb.1 rfl) HOT.out
                have HE18 := hid_of (HE15.out.ext hx16).e1
                clear HOV hb hx16 HE15
                dsimp only
                have hru := HE18.out.running
                have HRU := hid_of hru
                have hsc := scratch_any HOK.out HE18.out b3 ((pgX_of HB3.out HPRG.out).ext HE18.out.wx.1)
                have HSC := hid_of hsc
                have HI' : Hid (∃ S, E1 p W3 be S V16) := ⟨_, HE18.out⟩
                clear hru hsc HE18
                go_wp2_with fail
                refine HRU.out.mono ?_
                rintro e V19 ⟨rfl, e9⟩
                replace e9 := e9.symm
                subst e9
                dsimp only
                go_wp2_with fail
                refine HSC.out.mono ?_
                rintro e V20 ⟨rfl, e9⟩
                replace e9 := e9.symm
                subst e9
                clear HRU HSC
                dsimp only
                go_wp2_with fail
                refine ⟨rfl, rfl, ⟨rfl, rfl, rfl, i + 1, by omega, ?_, HI'⟩, ?_⟩
                · show Value.int .i64 _ = _
                  go_num
                · show len - (intOf (Value.int .i64 _)).toNat < len - (intOf (F 6)).toNat
                  rw [H6.out]
                  simp [intOf]; omega
          | true =>
            have hla := HEK.out.e1.lal HOK.out b3 x0 HB3.out HPL.out
            have HLA := hid_of hla
            clear hla
            go_wp2_with fail
            refine HLA.out.mono ?_
            rintro e V7 ⟨bd, hbd, rfl, hld⟩
            have HEK7 : Hid (E1K p W3 be S' (newc V3.heap.size V7) V7) := HEK.out.e1.grow hld.1
            have HRK7 : Hid (RelR (newc V3.heap.size V7) (some ⟨bd, 0, none⟩) p.P.length (allT S')) := hld.relN hbd
            obtain ⟨K2, hK2⟩ : ∃ K2, K2 = newc V3.heap.size V7 := ⟨_, rfl⟩
            rw [← hK2] at HEK7 HRK7
            clear HLA hld hbd hK2 HEK HRK HCS
            have HEK := HEK7
            have HRK := HRK7
            clear HEK7 HRK7
            dsimp only
            have hla := HEK.out.e1.lal HOK.out b3 x0 HB3.out HPL.out
            have HLA := hid_of hla
            clear hla
            go_wp2_with fail
            refine HLA.out.mono ?_
            rintro e V10 ⟨bb, hbb, rfl, hlb⟩
            have hEK10 := HEK.out.ext hlb.1
            have hsr := sameRels_perm V10 (some ⟨bb, 0, none⟩) p.P.length p.P.length (some ⟨bd, 0, none⟩) p.P.length (allT S') (allT S') ((hlb.relN hbb).sub (newc_sub _ _)) (HRK.out.sub hEK10.sub) (by omega) (fun q hq => ⟨List.Perm.refl _, by have := (HEK.out.e1.wx.2.1.1.2.1.at (3 * q)).1; show (rowsAt S' (3 * q)).length ≤ 10000; omega⟩)
            have HSR := hid_of hsr
            have HEK10 := hid_of hEK10
            clear HLA hlb hbb hsr hEK10 HEK
            dsimp only
            go_wp2_with fail
            refine HSR.out.mono ?_
            rintro e V11 ⟨rfl, hx11⟩
            have HEK11 : Hid (E1K p W3 be S' K2 V11) := HEK10.out.ext hx11
            have hmk := make57 V11 p.P.length (by omega)
            clear HSR hx11 HEK10
            dsimp only
            go_upto_region 29 with fail
            refine wp_world (fun V => LwI V11 K2 V11.heap.size p.P.length (basT p S') 0 V) ?_ ?_
            · refine ⟨extends_alloc (ext_Ext (Ext.refl _)) _, Nat.le_refl _, [], rfl, ?_, ?_, fun q d hd => by (cases hd)⟩
              · rw [← List.toArray_replicate, blk_alloc, if_pos rfl]; rfl
              · rw [free_alloc, if_pos rfl]
            rintro V12 hI0
            have HI0 := hid_of hI0
            obtain ⟨bo, hbo⟩ : ∃ bo, bo = V11.heap.size := ⟨_, rfl⟩
            rw [← hbo] at HI0 ⊢
            clear hI0 hbo hmk
            refine wp_loop_f 147 (lc6I p V11 K2 (some ⟨bs, o, none⟩) len cap b3 be i (some ⟨bd, 0, none⟩) p.P.length bo S') (fun f _ => p.P.length - (intOf (f 13)).toNat) rfl ⟨rfl, rfl, rfl, rfl, rfl, rfl, 0, by omega, rfl, HI0⟩ ?_
            clear HI0
            intro F3 V13 hrel
            obtain ⟨f0, f3, f4, f6, f7, f12, q, hq, f13, HIL⟩ := hrel
            have H13 := hid_of f13
            rw [frame147, f0, f3, f4, f6, f7, f12, f13]
            clear f0 f3 f4 f6 f7 f12 f13
            have hek := HEK11.out.ext HIL.out.1
            by_cases hqP : q < p.P.length
            · have hqP' : (q : Int) < (p.P.length : Int) := by omega
              obtain ⟨cP, Cb, CP, bP, e1, e2, e3, e4, e5, e6, e7, -⟩ := pgb_str ((pgX_of HB3.out HPRG.out).ext hek.e1.wx.1) hqP
              obtain ⟨br, Cr, ta, tn, tc, hbr, g1K, g2, -, g3, g4⟩ := rel_at HRK.out hqP
              have hbb : bd = br := by injection hbr with h1; injection h1
              subst hbb
              have g1 := hek.sub _ _ g1K
              have q0 : (0 : Int) ≤ (q : Int) := by omega
              have q2 : ((q : Int)).toNat = q := by omega
              have c1 : q * 3 + 1 < CP.length := by omega
              have c0 : 0 < Cb.length := by omega
              clear hbr g1K hek e7
              cases hb : basP p q with
              | true =>
                rw [hb] at e6
                have hlt : basT p S' q = allT S' q := by unfold basT; rw [if_pos hb]
                obtain ⟨Co, o1, o2, o3, o4, hI'⟩ := HIL.out.put hqP (by rw [hlt]; exact g4 : Rw tpl 4 K2 ta tn (basT p S' q)) (c := tc)
                have HI' := hid_of hI'
                clear hI' hlt g4 HIL
                go_wp2_with fail
                refine ⟨rfl, rfl, ⟨rfl, rfl, rfl, rfl, rfl, rfl, q + 1, by omega, ?_, HI'⟩, ?_⟩
                · show Value.int .i64 _ = _
                  go_num
                · show p.P.length - (intOf (Value.int .i64 _)).toNat < p.P.length - (intOf (F3 13)).toNat
                  rw [H13.out]
                  simp [intOf]; omega
              | false =>
                rw [hb] at e6
                have hlt : basT p S' q = [] := by unfold basT; rw [if_neg (by rw [hb]; decide)]
                have hI' := HIL.out.skip hqP hlt
                have HI' := hid_of hI'
                clear hI' hlt g4 HIL g1 g2 g3
                go_wp2_with fail
                refine ⟨rfl, rfl, ⟨rfl, rfl, rfl, rfl, rfl, rfl, q + 1, by omega, ?_, HI'⟩, ?_⟩
                · show Value.int .i64 _ = _
                  go_num
                · show p.P.length - (intOf (Value.int .i64 _)).toNat < p.P.length - (intOf (F3 13)).toNat
                  rw [H13.out]
                  simp [intOf]; omega
            · obtain rfl : q = p.P.length := by omega
              have hqP' : ¬ ((p.P.length : Int) < (p.P.length : Int)) := by omega
              obtain ⟨K', hEK', hKK, hKn⟩ := HEK11.out.grow HIL.out.1
              have HRB : Hid (RelR K' (some ⟨bo, 0, none⟩) p.P.length (basT p S')) := HIL.out.fin hKK (fun C hC => hKn _ _ (blk_newc hC HIL.out.2.1))
              have HRA : Hid (RelR K' (some ⟨bd, 0, none⟩) p.P.length (allT S')) := HRK.out.sub hKK
              have hru := hEK'.run HOK.out
              have HRN := hid_of hru
              have HEI := hid_of hEK'.e1.wx.2
              clear hru hEK' hKK hKn HIL hek HEK11
              go_wp2_with fail
              refine HRN.out.mono ?_
              rintro e V14 ⟨r, S2, hrt, hE14, hres⟩
              have hbt := basT_relI HEI.out
              have hpf := perfect_any V14 b3 p ((pgX_of HB3.out HPRG.out).ext hE14.e1.wx.1) HOK.out (some ⟨bo, 0, none⟩) p.P.length (basT p S') (HRB.out.sub hE14.sub) hbt
              have HPF := hid_of hpf
              have HE14 := hid_of hE14
              have HRT := hid_of hrt
              clear HRN hrt hE14 hpf hbt
              rcases hres with ⟨rfl, e2, rfl⟩ | ⟨τ, rfl, rfl, rfl⟩
              · replace e2 := e2.symm
                subst e2
                dsimp only
                go_wp2_with fail
                refine HPF.out.mono ?_
                rintro e V15 ⟨pa, pc, T1, rfl, hx15, hrn15, hri15, hpt⟩
                have hov := over_any V15 pa p.P.length pc T1 (hrn15.sub (newc_sub _ _)) (by omega) (fun q hq => outok_len (hri15 q hq))
                have HOV := hid_of hov
                have HOT : Hid (OvrT p.P.length T1) := by
                  rcases run_perf HOK.out HEI.out (basT_relI HEI.out) (fun _ _ _ => Iff.rfl) HRT.out hpt with ⟨_, h⟩ | ⟨τ, h, _⟩
                  · exact h
                  · cases h
                have HE15 := hid_of (HE14.out.ext hx15)
                clear HPF hx15 hrn15 hri15 hpt hov HE14
                dsimp only
                go_wp2_with fail
                refine HOV.out.mono ?_
                rintro e V16 ⟨b, rfl, hb, hx16⟩
                obtain rfl : b = true := hb.2 HOT.out
                have HE16 := hid_of (HE15.out.ext hx16)
                have hla := HE16.out.e1.lal HOK.out b3 x0 HB3.out HPL.out
                have HLA := hid_of hla
                clear HOV hb hx16 hla HE15
                dsimp only
                go_wp2_with fail
                refine HLA.out.mono ?_
                rintro e V17 ⟨bc, hbc, rfl, hlc⟩
                have hEK17 := HE16.out.ext hlc.1
                have hsr := sameRels_perm V17 (some ⟨bc, 0, none⟩) p.P.length p.P.length (some ⟨bd, 0, none⟩) p.P.length (allT S') (allT S') ((hlc.relN hbc).sub (newc_sub _ _)) (HRA.out.sub hEK17.sub) (by omega) (fun q hq => ⟨List.Perm.refl _, by have := (HEI.out.1.1.2.1.at (3 * q)).1; show (rowsAt S' (3 * q)).length ≤ 10000; omega⟩)
                have HSR := hid_of hsr
                have HE17 := hid_of hEK17
                clear HLA hlc hbc hsr hEK17 HE16
                dsimp only
                go_wp2_with fail
                refine HSR.out.mono ?_
                rintro e V18 ⟨rfl, hx18⟩
                have HE18 := hid_of (HE17.out.ext hx18).e1
                clear HSR hx18 HE17
                dsimp only
                have hru := HE18.out.running
                have HRU := hid_of hru
                have hsc := scratch_any HOK.out HE18.out b3 ((pgX_of HB3.out HPRG.out).ext HE18.out.wx.1)
                have HSC := hid_of hsc
                have HI' : Hid (∃ S, E1 p W3 be S V18) := ⟨_, HE18.out⟩
                clear hru hsc HE18
                go_wp2_with fail
                refine HRU.out.mono ?_
                rintro e V19 ⟨rfl, e9⟩
                replace e9 := e9.symm
                subst e9
                dsimp only
                go_wp2_with fail
                refine HSC.out.mono ?_
                rintro e V20 ⟨rfl, e9⟩
                replace e9 := e9.symm
                subst e9
                clear HRU HSC
                dsimp only
                go_wp2_with fail
                refine ⟨rfl, rfl, ⟨rfl, rfl, rfl, i + 1, by omega, ?_, HI'⟩, ?_⟩
                · show Value.int .i64 _ = _
                  go_num
                · show len - (intOf (Value.int .i64 _)).toNat < len - (intOf (F 6)).toNat
                  rw [H6.out]
                  simp [intOf]; omega
              · dsimp only
                go_wp2_with fail
                refine HPF.out.mono ?_
                rintro e V15 ⟨pa, pc, T1, rfl, hx15, hrn15, hri15, hpt⟩
                have hov := over_any V15 pa p.P.length pc T1 (hrn15.sub (newc_sub _ _)) (by omega) (fun q hq => outok_len (hri15 q hq))
                have HOV := hid_of hov
                have HOT : Hid (¬ OvrT p.P.length T1) := by
                  rcases run_perf HOK.out HEI.out (basT_relI HEI.out) (fun _ _ _ => Iff.rfl) HRT.out hpt with ⟨h, _⟩ | ⟨_, _, _, h⟩
                  · cases h
                  · exact h
                have HE15 := hid_of (HE14.out.ext hx15)
                clear HPF hx15 hrn15 hri15 hpt hov HE14
                dsimp only
                go_wp2_with fail
                refine HOV.out.mono ?_
                rintro e V16 ⟨b, rfl, hb, hx16⟩
                obtain rfl : b = false := by
                  cases b with
                  | false => rfl
                  | true => exact absurd (hb.1 rfl) HOT.out
                have HE18 := hid_of (HE15.out.ext hx16).e1
                clear HOV hb hx16 HE15
                dsimp only
                have hru := HE18.out.running
                have HRU := hid_of hru
                have hsc := scratch_any HOK.out HE18.out b3 ((pgX_of HB3.out HPRG.out).ext HE18.out.wx.1)
                have HSC := hid_of hsc
                have HI' : Hid (∃ S, E1 p W3 be S V16) := ⟨_, HE18.out⟩
                clear hru hsc HE18
                go_wp2_with fail
                refine HRU.out.mono ?_
                rintro e V19 ⟨rfl, e9⟩
                replace e9 := e9.symm
                subst e9
                dsimp only
                go_wp2_with fail
                refine HSC.out.mono ?_
                rintro e V20 ⟨rfl, e9⟩
                replace e9 := e9.symm
                subst e9
                clear HRU HSC
                dsimp only
                go_wp2_with fail
                refine ⟨rfl, rfl, ⟨rfl, rfl, rfl, i + 1, by omega, ?_, HI'⟩, ?_⟩
                · show Value.int .i64 _ = _
                  go_num
                · show len - (intOf (Value.int .i64 _)).toNat < len - (intOf (F 6)).toNat
                  rw [H6.out]
                  simp [intOf]; omega
    · have hpl := hE.play HOK.out (g i)
      have HPY := hid_of hpl
      clear hpl hE hxV
      go_wp2_with fail
      refine HPY.out.mono ?_
      rintro e V2 ⟨S', A, ts, rfl, -, hE'⟩
      have HI' : Hid (∃ S, E1 p W3 be S V2) := ⟨S', hE'⟩
      clear HPY hE' hC
      dsimp only
      go_wp2_with fail
      refine ⟨rfl, rfl, ⟨rfl, rfl, rfl, i + 1, by omega, ?_, HI'⟩, ?_⟩
      · show Value.int .i64 _ = _
        go_num
      · show len - (intOf (Value.int .i64 _)).toNat < len - (intOf (F 6)).toNat
        rw [H6.out]
        simp [intOf]; omega
  · obtain rfl : i = len := by omega
    have hin' : ¬ ((i : Int) < (i : Int)) := by omega
    have HP : Hid (Q (.returned (.bool true)) V) := by
      show Q _ _
      rw [HQ.out]; exact ⟨rfl, HXW.out.trans hxV⟩
    clear HI hE hxV
    go_wp2_with fail
    try go_ret
    exact HP.out
end Go.Proofs.Qxb6500788a
