
import Derived.Test.Qxb6500787aGreatUn
import Derived.StillTailTactics
import Derived.Deep.QuietTactic
import Derived.BigQuiet
import Derived.Deep.RegionHeld
import Derived.Deep.CutRange
import Derived.Laws.ResultCell
import Derived.Laws.Rows
import Derived.DeepKeys
import Derived.DataBytes
import Derived.Laws.StructEq
import Derived.Laws.AppendOwn
import Derived.Laws.MakeOwn
import Derived.Lib.AppendStr
set_option linter.unusedSimpArgs false
set_option linter.unusedVariables false
namespace Go.Proofs.Qxb6500787aGreat
open Go.RowKit Go.Blk
attribute [local go_sem ↓] execOp_load execOp_store execOp_alloc
attribute [local go_sem] Tryz.ld26 Tryz.st26 Tryz.ld27 Tryz.st27 Tryz.ld28 Tryz.st28 Tryz.ld3 Tryz.st3 Tryz.ld29 Tryz.st29 Tryz.ld44 Tryz.st44 Tryz.ld4 Tryz.st4 Tryz.ld50 Tryz.st50 Tryz.ld32 Tryz.st32 Tryz.ld49 Tryz.st49 Tryz.ld68 Tryz.st68 Tryz.ld9 Tryz.st9 Tryz.ld40 Tryz.st40 Tryz.ld138 Tryz.st138 Tryz.ld139 Tryz.st139 Tryz.ld146 Tryz.st146 Tryz.ld183 Tryz.st183 Tryz.ld184 Tryz.st184 Tryz.ld192 Tryz.st192 Tryz.ld195 Tryz.st195 Tryz.ld217 Tryz.st217 Tryz.ld159 Tryz.st159 Tryz.ld142 Tryz.st142 Tryz.ld2 Tryz.st2 Tryz.ld5 Tryz.st5 Tryz.ld12 Tryz.st12 Tryz.ld21 Tryz.st21 Tryz.ld22 Tryz.st22 Tryz.ld24 Tryz.st24 Tryz.ld58 Tryz.st58 Tryz.ld97 Tryz.st97 Tryz.ld101 Tryz.st101 Tryz.ld116 Tryz.st116 Tryz.ld121 Tryz.st121 Tryz.ld135 Tryz.st135 Tryz.ld136 Tryz.st136 Tryz.ld143 Tryz.st143 Tryz.ld148 Tryz.st148 Tryz.ld154 Tryz.st154 Tryz.ld173 Tryz.st173 Tryz.ld187 Tryz.st187 Tryz.ld222 Tryz.st222 Tryz.ld241 Tryz.st241 Tryz.ld248 Tryz.st248 Tryz.ld268 Tryz.st268 Tryz.ld272 Tryz.st272 Tryz.ld153 Tryz.st153 Tryz.ld255 Tryz.st255 Tryz.ld256 Tryz.st256 Tryz.ld129 Tryz.st129 Tryz.ld152 Tryz.st152 Tryz.ld31 Tryz.st31 Tryz.ld46 Tryz.st46 Tryz.ld52 Tryz.st52 Tryz.ld54 Tryz.st54 Tryz.ld60 Tryz.st60 Tryz.ld70 Tryz.st70 Tryz.ld74 Tryz.st74 Tryz.ld93 Tryz.st93 Tryz.ld141 Tryz.st141 Tryz.ld151 Tryz.st151 Tryz.ld170 Tryz.st170 Tryz.ld186 Tryz.st186 Tryz.ld189 Tryz.st189 Tryz.ld194 Tryz.st194 Tryz.ld197 Tryz.st197 Tryz.ld219 Tryz.st219 Tryz.ld224 Tryz.st224 Tryz.ld230 Tryz.st230 Tryz.ld235 Tryz.st235 Tryz.ld243 Tryz.st243 Tryz.ld247 Tryz.st247 Tryz.ld252 Tryz.st252 Tryz.ld258 Tryz.st258 Tryz.al153 Tryz.al255 Tryz.al256 Tryz.al129 Tryz.al152 Tryz.al31 Tryz.al46 Tryz.al52 Tryz.al54 Tryz.al60 Tryz.al70 Tryz.al74 Tryz.al93 Tryz.al141 Tryz.al151 Tryz.al170 Tryz.al186 Tryz.al189 Tryz.al194 Tryz.al197 Tryz.al219 Tryz.al224 Tryz.al230 Tryz.al235 Tryz.al243 Tryz.al247 Tryz.al252 Tryz.al258
attribute [local go_sem] Request.length_enc Request.ok_enc Request.all_get Request.all_set Request.kind_get Request.kind_set Request.blob_get Request.blob_set Request.items_get Request.items_set Request.pred_get Request.pred_set Request.slots_get Request.slots_set Trace.length_enc Trace.ok_enc Trace.all_get Trace.all_set Trace.op_get Trace.op_set Trace.calls_get Trace.calls_set Item.length_enc Item.ok_enc Item.all_get Item.all_set Item.del_get Item.del_set Item.pred_get Item.pred_set Item.args_get Item.args_set Reply.length_enc Reply.ok_enc Reply.all_get Reply.all_set Reply.code_get Reply.code_set Reply.kind_get Reply.kind_set Reply.index_get Reply.index_set Reply.yes_get Reply.yes_set Reply.preds_get Reply.preds_set Reply.rules_get Reply.rules_set Reply.arity_get Reply.arity_set Reply.rows_get Reply.rows_set Reply.fact_get Reply.fact_set Reply.fact_del_get Reply.fact_del_set Reply.fact_pred_get Reply.fact_pred_set Reply.fact_args_get Reply.fact_args_set GEntry.length_enc GEntry.ok_enc GEntry.all_get GEntry.all_set GEntry.seq_get GEntry.seq_set GEntry.kind_get GEntry.kind_set GEntry.code_get GEntry.code_set GOp.length_enc GOp.ok_enc GOp.all_get GOp.all_set GOp.kind_get GOp.kind_set GOp.raw_get GOp.raw_set Reader.length_enc Reader.ok_enc Reader.all_get Reader.all_set Reader.buf_get Reader.buf_set Reader.at__get Reader.at__set Slot.length_enc Slot.ok_enc Slot.all_get Slot.all_set Slot.bound_get Slot.bound_set Slot.name_get Slot.name_set Session.length_enc Session.ok_enc Session.all_get Session.all_set Session.svc_get Session.svc_set Session.buf_get Session.buf_set Session.closed_get Session.closed_set GProgram.length_enc GProgram.ok_enc GProgram.all_get GProgram.all_set GProgram.pool_get GProgram.pool_set GProgram.preds_get GProgram.preds_set GProgram.rules_get GProgram.rules_set GProgram.strata_get GProgram.strata_set PredInfo.length_enc PredInfo.ok_enc PredInfo.all_get PredInfo.all_set PredInfo.arity_get PredInfo.arity_set PredInfo.base_get PredInfo.base_set PredInfo.stratum_get PredInfo.stratum_set Change.length_enc Change.ok_enc Change.all_get Change.all_set Change.del_get Change.del_set Change.pred_get Change.pred_set Change.t_get Change.t_set Store.length_enc Store.ok_enc Store.all_get Store.all_set Store.names_get Store.names_set Store.arity_get Store.arity_set Store.rows_get Store.rows_set Src.length_enc Src.ok_enc Src.all_get Src.all_set Src.b_get Src.b_set Src.at__get Src.at__set Atom.length_enc Atom.ok_enc Atom.all_get Atom.all_set Atom.pred_get Atom.pred_set Atom.args_get Atom.args_set GRule.length_enc GRule.ok_enc GRule.all_get GRule.all_set GRule.head_get GRule.head_set GRule.body_get GRule.body_set GRule.head_pred_get GRule.head_pred_set GRule.head_args_get GRule.head_args_set Cert.length_enc Cert.ok_enc Cert.all_get Cert.all_set Cert.names_get Cert.names_set Cert.nodes_get Cert.nodes_set Fact.length_enc Fact.ok_enc Fact.all_get Fact.all_set Fact.pred_get Fact.pred_set Fact.t_get Fact.t_set Literal.length_enc Literal.ok_enc Literal.all_get Literal.all_set Literal.neg_get Literal.neg_set Literal.atom_get Literal.atom_set Literal.atom_pred_get Literal.atom_pred_set Literal.atom_args_get Literal.atom_args_set Engine.length_enc Engine.ok_enc Engine.all_get Engine.all_set Engine.prog_get Engine.prog_set Engine.st_get Engine.st_set SrcCertm.length_enc SrcCertm.ok_enc SrcCertm.all_get SrcCertm.all_set SrcCertm.b_get SrcCertm.b_set SrcCertm.at__get SrcCertm.at__set GNode.length_enc GNode.ok_enc GNode.all_get GNode.all_set GNode.rule_get GNode.rule_set GNode.pred_get GNode.pred_set GNode.vals_get GNode.vals_set GNode.refs_get GNode.refs_set Term.length_enc Term.ok_enc Term.all_get Term.all_set Term.var_get Term.var_set Term.n_get Term.n_set Env.length_enc Env.ok_enc Env.all_get Env.all_set Env.val_get Env.val_set Env.set_get Env.set_set
attribute [local go_sem] size_put size_ext blk_put free_put blk_alloc free_alloc blk_drew free_drew blk_ext free_ext lookOr_some putOr_some segAt_some cellAt_some storeIn_some put_put put_alloc_new length_arr ok_arr_u8 ok_arr_u32 ok_arr_u64 ok_arr_i64 ok_arr_sl cellsV_agg cellsV_int cellsV_bool cellsV_string cellsV_pointer cellsV_slice cellsV_sl ok_int ok_bool ok_string ok_pointer ok_slice ok_sl toList_arr seg_arr set_arr nth_splice nth_splice0 seg_splice seg_splice0 splice_splice splice_splice0 length_splice_if
attribute [local go_sem ↓] execOp_box
attribute [local go_sem] box_run nth_arr_u8 put_arr_u8 blk_drewN free_drewN put_drewN blk_raw free_raw
/-- An atom under the values of a node. -/
def insV (a : PA) (vals : List Int) (c : Nat) : Int := if (tA a c).var then vals.getD (tA a c).n.toNat 0 else (tA a c).n
def insO (vals : List Int) (t : Term) : Bool := !t.var || decide (t.n < (vals.length : Int))
def insOk (a : PA) (vals : List Int) : Bool := a.args.all (insO vals)
def insT (a : PA) (vals : List Int) : Tup := mkT (insV a vals) a.args.length
theorem splice_cons (x : Value) (L X : List Value) (c : Nat) : splice (x :: L) (1 + c) X = x :: splice L c X := by
  unfold splice
  rw [Nat.add_comm 1 c]
  simp [Nat.add_right_comm]
theorem fact_put (p : Int) (f : Nat → Int) {c : Nat} (hc : c < 4) {v : Int} (hv : v = f c) : splice (Fact.enc ⟨p, mkT f c⟩) (1 + c) [.int .i64 v] = Fact.enc ⟨p, mkT f (c + 1)⟩ := by
  show splice (.int .i64 p :: arr i64v (mkT f c)) (1 + c) [.int .i64 v] = .int .i64 p :: arr i64v (mkT f (c + 1))
  rw [splice_cons, mkT_put f hc hv]
def FiPost (W : World) (a : PA) (vals : List Int) (e : Ending) (V : World) : Prop := ∃ f : Fact, e = .returned (.tuple #[.agg f.enc.toArray, .bool (insOk a vals)]) ∧ (insOk a vals = true → f = ⟨(a.pred : Int), insT a vals⟩) ∧ W.Extends V
theorem build224 (w : World) (p : Int) : (buildOp 272 #[(0, .int .i64 p)]).run Tryz.prog w = .ok (.value (.agg (Fact.enc ⟨p, Vector.replicate 4 0⟩).toArray)) w := by kernel_rfl
theorem build224z (w : World) : (buildOp 272 #[]).run Tryz.prog w = .ok (.value (.agg (Fact.zero.enc).toArray)) w := by kernel_rfl
def fiI (W : World) (b2 b4 b6 : Nat) (va : Option Addr) (vn vc n : Nat) (XE : List Value) (a : PA) (vals : List Int) (f : Nat → Value) (V : World) : Prop := f 1 = .slice va vn vc ∧ f 2 = .pointer (some ⟨b2, 0, none⟩) ∧ f 4 = .pointer (some ⟨b4, 0, none⟩) ∧ f 6 = .pointer (some ⟨b6, 0, none⟩) ∧ ∃ c : Nat, c ≤ n ∧ f 7 = .int .i64 (c : Nat) ∧ Hid (W.Extends V ∧ blk V b2 = some XE ∧ blk V b4 = some Fact.zero.enc ∧ free V b4 = true ∧ blk V b6 = some (Fact.enc ⟨(a.pred : Int), mkT (insV a vals) c⟩) ∧ free V b6 = true ∧ ∀ j, j < c → ∀ x, a.args[j]? = some x → insO vals x = true)
attribute [local go_sem ↓] execOp_build
attribute [local go_sem] build224 build224z
set_option maxRecDepth 100000 in
theorem frame57i (f : Nat → Value) : frameN 57 f = #[f 0, f 1, f 2, f 3, f 4, f 5, f 6, f 7, f 8, f 9, f 10, f 11, f 12, f 13, f 14, f 15, f 16, f 17, f 18, f 19, f 20, f 21, f 22, f 23, f 24, f 25, f 26, f 27, f 28, f 29, f 30, f 31, f 32, f 33, f 34, f 35, f 36, f 37, f 38, f 39, f 40, f 41, f 42, f 43, f 44, f 45, f 46, f 47, f 48, f 49, f 50, f 51, f 52, f 53, f 54, f 55, f 56] := by kernel_rfl
set_option maxRecDepth 40000 in
set_option maxHeartbeats 4000000 in
theorem inst_any (W : World) (x : Atom) (a : PA) (hA : AtomC W x a) (hf : Fit a) (va : Option Addr) (vn vc : Nat) (vals : List Int) (hV : Rw encZ 1 W va vn vals) (hvn : vn ≤ 100000) : Calls Tryz.prog 167 #[.agg x.enc.toArray, .slice va vn vc] W (FiPost W a vals) := by
  obtain ⟨Q, hQ⟩ : ∃ Q, Q = FiPost W a vals := ⟨_, rfl⟩
  rw [← hQ]
  have HQ := hid_of hQ
  have HA := hid_of hA
  have HF := hid_of hf
  have HV := hid_of hV
  have HVL := hid_of hV.1
  have h4 := hf.1
  obtain ⟨q, hq⟩ : ∃ q, q = a.pred := ⟨_, rfl⟩
  obtain ⟨n, hn⟩ : ∃ n, n = a.args.length := ⟨_, rfl⟩
  have x0 : nth x.enc 0 = some (.int .i64 (q : Int)) := by rw [Atom.pred_get, hA.1, hq]
  have x1 : nth x.enc 1 = some (.slice x.args.a n x.args.cap) := by
    rw [Atom.args_get, hn, hA.2.1]; rfl
  have xl : x.enc.length = 2 := Atom.length_enc x
  obtain ⟨XE, hXE⟩ : ∃ XE, XE = x.enc := ⟨_, rfl⟩
  rw [← hXE] at x0 x1 xl ⊢
  rw [← hn] at h4
  have xl0 : 0 < XE.length := by omega
  have xl1 : 1 < XE.length := by omega
  have HN := hid_of hn
  have HQP := hid_of hq
  clear hQ hA hf hV hXE xl hn hq
  go_enter Tryz.func167, Tryz.ntmps167
  go_upto_region 3 with fail
  refine wp_world (fun V => W.Extends V ∧ blk V W.heap.size = some XE ∧ blk V (W.heap.size + 1) = some Fact.zero.enc ∧ free V (W.heap.size + 1) = true ∧ blk V (W.heap.size + 2) = some (Fact.enc ⟨(q : Int), Vector.replicate 4 0⟩) ∧ free V (W.heap.size + 2) = true) ?_ ?_
  · refine ⟨extends_put (extends_alloc (extends_alloc (extends_alloc (ext_Ext (Ext.refl _)) _) _) _) (by omega) _, ?_, ?_, ?_, ?_, ?_⟩
    · rw [blk_put, if_neg (by omega), blk_alloc, if_neg (by simp only [World.size_alloc]; omega), blk_alloc, if_neg (by simp only [World.size_alloc]; omega), blk_alloc, if_pos rfl]
    · rw [blk_put, if_neg (by omega), blk_alloc, if_neg (by simp only [World.size_alloc]; omega), blk_alloc, if_pos (by simp only [World.size_alloc])]
    · rw [free_put, free_alloc, if_neg (by simp only [World.size_alloc]; omega), free_alloc, if_pos (by simp only [World.size_alloc])]
    · rw [blk_put, if_pos (by omega), blk_alloc, if_pos (by simp only [World.size_alloc])]; rfl
    · rw [free_put, free_alloc, if_pos (by simp only [World.size_alloc])]
  rintro V1 ⟨hx1, hb2, hb4, hf4, hb6, hf6⟩
  try simp only [World.size_alloc]
  obtain ⟨b6, eb6⟩ : ∃ b6, b6 = W.heap.size + 2 := ⟨_, rfl⟩
  obtain ⟨b4, eb4⟩ : ∃ b4, b4 = W.heap.size + 1 := ⟨_, rfl⟩
  obtain ⟨b2, eb2⟩ : ∃ b2, b2 = W.heap.size := ⟨_, rfl⟩
  rw [← eb6] at hb6 hf6
  rw [← eb4] at hb4 hf4
  rw [← eb2] at hb2
  rw [show W.heap.size + 1 + 1 = b6 by omega, ← eb4, ← eb2]
  have hw4 : W.heap.size ≤ b4 := by omega
  have hw6 : W.heap.size ≤ b6 := by omega
  have n26 : ¬ b2 = b6 := by omega
  have n46 : ¬ b4 = b6 := by omega
  have n64 : ¬ b6 = b4 := by omega
  have n24 : ¬ b2 = b4 := by omega
  have HI0 : Hid (W.Extends V1 ∧ blk V1 b2 = some XE ∧ blk V1 b4 = some Fact.zero.enc ∧ free V1 b4 = true ∧ blk V1 b6 = some (Fact.enc ⟨(a.pred : Int), mkT (insV a vals) 0⟩) ∧ free V1 b6 = true ∧ ∀ j, j < 0 → ∀ x, a.args[j]? = some x → insO vals x = true) := ⟨hx1, hb2, hb4, hf4, by rw [mkT_zero, ← HQP.out]; exact hb6, hf6, fun j h => absurd h (Nat.not_lt_zero _)⟩
  clear eb2 eb4 eb6 hx1 hb2 hb4 hf4 hb6 hf6
  refine wp_loop_f 57 (fiI W b2 b4 b6 va vn vc n XE a vals) (fun f _ => n - (intOf (f 7)).toNat) rfl ⟨rfl, rfl, rfl, rfl, 0, by omega, rfl, HI0⟩ ?_
  clear HI0
  intro F V hrel
  obtain ⟨f1, f2, f4, f6, i, hi, f7, HI⟩ := hrel
  have H7 := hid_of f7
  rw [frame57i, f1, f2, f4, f6, f7]
  clear f1 f2 f4 f6 f7
  obtain ⟨hx, hb2, hb4, hf4, hb6, hf6, hall⟩ := HI.out
  obtain ⟨FE, hFE⟩ : ∃ FE, FE = Fact.enc ⟨(a.pred : Int), mkT (insV a vals) i⟩ := ⟨_, rfl⟩
  have fl : FE.length = 5 := by rw [hFE]; exact Fact.length_enc _
  have fa : seg FE 0 5 = FE := by rw [hFE]; exact Fact.all_get _
  have fo : okCells 5 FE = true := by rw [hFE]; exact Fact.ok_enc _
  have fs : splice Fact.zero.enc 0 FE = FE := by rw [hFE]; exact Fact.all_set _ _
  rw [← hFE] at hb6
  have HFE := hid_of hFE
  have HX := hid_of hx
  have fl5 : 0 + 5 ≤ FE.length := by omega
  have HRT : Hid (∀ b, insOk a vals = b → (b = true → i = n) → Q (.returned (.tuple #[.agg FE.toArray, .bool b])) (put V b4 FE)) := fun b h1 h2 => by
    rw [HQ.out]
    refine ⟨⟨(a.pred : Int), mkT (insV a vals) i⟩, by rw [HFE.out, h1], fun e => ?_, extends_put HX.out hw4 _⟩
    rw [h2 (h1.symm.trans e), HN.out]; rfl
  by_cases hin : i < n
  rotate_left 1
  · have hin' : ¬ (i : Int) < (n : Int) := by omega
    have HP := hid_of (HRT.out true (all_yes (fun k x hx => hall k (by have := (List.getElem?_eq_some_iff.1 hx).1; rw [← HN.out] at this; omega) x hx)) (fun _ => by omega))
    clear HI hx hall hFE HRT
    go_wp2_with fail
    refine ret_cell_tmp (C := FE) rfl rfl rfl ?_ (by kernel_rfl) (by rw [fl]; kernel_rfl) rfl HP.out
    first | (rw [blk_put, if_pos rfl, hb4]; rfl) | (simp only [blk_put, if_true, hb4, Option.map_some]; try rfl)
  have hin' : (i : Int) < (n : Int) := by omega
  have i0 : (0 : Int) ≤ (i : Int) := by omega
  have i2 : ((i : Int)).toNat = i := by omega
  have i4 : (i : Int) < 4 := by omega
  obtain ⟨ba, Ca, t1, t2, t3, t4, t5⟩ := term_at (HA.out.ext hx) (c := i) (by rw [← HN.out]; exact hin)
  have htx := tA_at (a := a) (c := i) (by rw [← HN.out]; exact hin)
  obtain ⟨fn0, _, _⟩ := HF.out.2 i (by rw [← HN.out]; exact hin)
  rw [t1] at x1
  have hinv : insV a vals i = if (tA a i).var then vals.getD (tA a i).n.toNat 0 else (tA a i).n := rfl
  obtain ⟨tv, htv⟩ : ∃ tv, tv = (tA a i).var := ⟨_, rfl⟩
  obtain ⟨tn, htn⟩ : ∃ tn, tn = (tA a i).n := ⟨_, rfl⟩
  have hio : insO vals (tA a i) = (!tv || decide (tn < (vals.length : Int))) := by unfold insO; rw [← htv, ← htn]
  rw [← htv] at t4
  rw [← htn] at t5 fn0
  rw [← htv, ← htn] at hinv
  have m0 : i * 2 < Ca.length := by omega
  have HUP : Hid (insO vals (tA a i) = true → ∀ v, v = insV a vals i → W.Extends (put V b6 (splice FE (1 + i) [.int .i64 v])) ∧ blk (put V b6 (splice FE (1 + i) [.int .i64 v])) b2 = some XE ∧ blk (put V b6 (splice FE (1 + i) [.int .i64 v])) b4 = some Fact.zero.enc ∧ free (put V b6 (splice FE (1 + i) [.int .i64 v])) b4 = true ∧ blk (put V b6 (splice FE (1 + i) [.int .i64 v])) b6 = some (Fact.enc ⟨(a.pred : Int), mkT (insV a vals) (i + 1)⟩) ∧ free (put V b6 (splice FE (1 + i) [.int .i64 v])) b6 = true ∧ ∀ j, j < i + 1 → ∀ x, a.args[j]? = some x → insO vals x = true) := by
    intro ho v hv
    refine ⟨extends_put hx hw6 _, by rw [blk_put, if_neg n26]; exact hb2, by rw [blk_put, if_neg n46]; exact hb4, by rw [free_put]; exact hf4, ?_, by rw [free_put]; exact hf6, up1 hall (fun y hy => by rw [htx] at hy; rw [← Option.some.inj hy]; exact ho)⟩
    rw [blk_put, if_pos rfl, hb6]
    show some (splice FE (1 + i) [.int .i64 v]) = _
    rw [HFE.out, fact_put _ _ (by omega) hv]
  have HNO : Hid (insO vals (tA a i) = false → insOk a vals = false) := fun h => all_not htx h
  have f1i : 1 + i < FE.length := by omega
  have f1i' : 1 + i + 1 ≤ FE.length := by omega
  cases tv with
  | false =>
    have HI' := hid_of (HUP.out (by rw [hio]; rfl) tn (by rw [hinv]; rfl))
    clear HUP HNO HRT HI hx hall hFE htx htv htn hinv hio t1 t3
    go_wp2_with fail
    refine ⟨rfl, rfl, ⟨rfl, rfl, rfl, rfl, i + 1, by omega, ?_, HI'⟩, ?_⟩
    · show Value.int .i64 _ = _
      go_num
    · show n - (intOf (Value.int .i64 _)).toNat < n - (intOf (F 7)).toNat
      rw [H7.out]
      simp [intOf]; omega
  | true =>
    by_cases hvl : tn < (vn : Int)
    · have hvl' : ¬ (vn : Int) ≤ tn := by omega
      obtain ⟨y, hy⟩ : ∃ y : Nat, tn = (y : Int) := ⟨tn.toNat, by omega⟩
      subst hy
      have hyl : y < vals.length := by rw [HVL.out]; omega
      obtain ⟨z, hz⟩ : ∃ z, vals[y]? = some z := ⟨_, List.getElem?_eq_getElem hyl⟩
      obtain ⟨bv, Cv, s1, s2, s3, s4, s5⟩ := rw_cell (HV.out.ext' hx) hz (v := .int .i64 z) rfl
      have HI' := hid_of (HUP.out (by rw [hio, HVL.out]; simp; omega) z (by rw [hinv, if_pos rfl, Int.toNat_natCast, List.getD_eq_getElem?_getD, hz]; rfl))
      subst s1
      have y0 : (0 : Int) ≤ (y : Int) := by omega
      have y2 : ((y : Int)).toNat = y := by omega
      have sm : y < Cv.length := by omega
      clear HUP HNO HRT HI hx hall hFE htx htv htn hinv hio t1 t3 hz hyl s3
      go_wp2_with fail
      refine ⟨rfl, rfl, ⟨rfl, rfl, rfl, rfl, i + 1, by omega, ?_, HI'⟩, ?_⟩
      · show Value.int .i64 _ = _
        go_num
      · show n - (intOf (Value.int .i64 _)).toNat < n - (intOf (F 7)).toNat
        rw [H7.out]
        simp [intOf]; omega
    · have hvl' : (vn : Int) ≤ tn := by omega
      have HP := hid_of (HRT.out false (HNO.out (by rw [hio, HVL.out]; simp; omega)) (fun e => by cases e))
      clear HUP HNO HRT HI hx hall hFE htx htv htn hinv hio t1 t3
      go_wp2_with fail
      refine ret_cell_tmp (C := FE) rfl rfl rfl ?_ (by kernel_rfl) (by rw [fl]; kernel_rfl) rfl HP.out
      first | (rw [blk_put, if_pos rfl, hb4]; rfl) | (simp only [blk_put, if_true, hb4, Option.map_some]; try rfl)
end Go.Proofs.Qxb6500787aGreat
