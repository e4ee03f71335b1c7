
import Derived.Test.Qxb6500787aGreatTl
import Derived.StillTailTactics
import Derived.Deep.QuietTactic
import Derived.BigQuiet
import Derived.Deep.RegionHeld
import Derived.Deep.CutRange
import Derived.Laws.ResultCell
import Derived.Laws.Rows
import Derived.DeepKeys
import Derived.DataBytes
import Derived.Laws.StructEq
import Derived.Laws.AppendOwn
import Derived.Laws.MakeOwn
import Derived.Lib.AppendStr
set_option linter.unusedSimpArgs false
set_option linter.unusedVariables false
namespace Go.Proofs.Qxb6500787aGreat
open Go.RowKit Go.Blk
attribute [local go_sem ↓] execOp_load execOp_store execOp_alloc
attribute [local go_sem] Tryz.ld26 Tryz.st26 Tryz.ld27 Tryz.st27 Tryz.ld28 Tryz.st28 Tryz.ld3 Tryz.st3 Tryz.ld29 Tryz.st29 Tryz.ld44 Tryz.st44 Tryz.ld4 Tryz.st4 Tryz.ld50 Tryz.st50 Tryz.ld32 Tryz.st32 Tryz.ld49 Tryz.st49 Tryz.ld68 Tryz.st68 Tryz.ld9 Tryz.st9 Tryz.ld40 Tryz.st40 Tryz.ld138 Tryz.st138 Tryz.ld139 Tryz.st139 Tryz.ld146 Tryz.st146 Tryz.ld183 Tryz.st183 Tryz.ld184 Tryz.st184 Tryz.ld192 Tryz.st192 Tryz.ld195 Tryz.st195 Tryz.ld217 Tryz.st217 Tryz.ld159 Tryz.st159 Tryz.ld142 Tryz.st142 Tryz.ld2 Tryz.st2 Tryz.ld5 Tryz.st5 Tryz.ld12 Tryz.st12 Tryz.ld21 Tryz.st21 Tryz.ld22 Tryz.st22 Tryz.ld24 Tryz.st24 Tryz.ld58 Tryz.st58 Tryz.ld97 Tryz.st97 Tryz.ld101 Tryz.st101 Tryz.ld116 Tryz.st116 Tryz.ld121 Tryz.st121 Tryz.ld135 Tryz.st135 Tryz.ld136 Tryz.st136 Tryz.ld143 Tryz.st143 Tryz.ld148 Tryz.st148 Tryz.ld154 Tryz.st154 Tryz.ld173 Tryz.st173 Tryz.ld187 Tryz.st187 Tryz.ld222 Tryz.st222 Tryz.ld241 Tryz.st241 Tryz.ld248 Tryz.st248 Tryz.ld268 Tryz.st268 Tryz.ld272 Tryz.st272 Tryz.ld153 Tryz.st153 Tryz.ld255 Tryz.st255 Tryz.ld256 Tryz.st256 Tryz.ld129 Tryz.st129 Tryz.ld152 Tryz.st152 Tryz.ld31 Tryz.st31 Tryz.ld46 Tryz.st46 Tryz.ld52 Tryz.st52 Tryz.ld54 Tryz.st54 Tryz.ld60 Tryz.st60 Tryz.ld70 Tryz.st70 Tryz.ld74 Tryz.st74 Tryz.ld93 Tryz.st93 Tryz.ld141 Tryz.st141 Tryz.ld151 Tryz.st151 Tryz.ld170 Tryz.st170 Tryz.ld186 Tryz.st186 Tryz.ld189 Tryz.st189 Tryz.ld194 Tryz.st194 Tryz.ld197 Tryz.st197 Tryz.ld219 Tryz.st219 Tryz.ld224 Tryz.st224 Tryz.ld230 Tryz.st230 Tryz.ld235 Tryz.st235 Tryz.ld243 Tryz.st243 Tryz.ld247 Tryz.st247 Tryz.ld252 Tryz.st252 Tryz.ld258 Tryz.st258 Tryz.al153 Tryz.al255 Tryz.al256 Tryz.al129 Tryz.al152 Tryz.al31 Tryz.al46 Tryz.al52 Tryz.al54 Tryz.al60 Tryz.al70 Tryz.al74 Tryz.al93 Tryz.al141 Tryz.al151 Tryz.al170 Tryz.al186 Tryz.al189 Tryz.al194 Tryz.al197 Tryz.al219 Tryz.al224 Tryz.al230 Tryz.al235 Tryz.al243 Tryz.al247 Tryz.al252 Tryz.al258
attribute [local go_sem] Request.length_enc Request.ok_enc Request.all_get Request.all_set Request.kind_get Request.kind_set Request.blob_get Request.blob_set Request.items_get Request.items_set Request.pred_get Request.pred_set Request.slots_get Request.slots_set Trace.length_enc Trace.ok_enc Trace.all_get Trace.all_set Trace.op_get Trace.op_set Trace.calls_get Trace.calls_set Item.length_enc Item.ok_enc Item.all_get Item.all_set Item.del_get Item.del_set Item.pred_get Item.pred_set Item.args_get Item.args_set Reply.length_enc Reply.ok_enc Reply.all_get Reply.all_set Reply.code_get Reply.code_set Reply.kind_get Reply.kind_set Reply.index_get Reply.index_set Reply.yes_get Reply.yes_set Reply.preds_get Reply.preds_set Reply.rules_get Reply.rules_set Reply.arity_get Reply.arity_set Reply.rows_get Reply.rows_set Reply.fact_get Reply.fact_set Reply.fact_del_get Reply.fact_del_set Reply.fact_pred_get Reply.fact_pred_set Reply.fact_args_get Reply.fact_args_set GEntry.length_enc GEntry.ok_enc GEntry.all_get GEntry.all_set GEntry.seq_get GEntry.seq_set GEntry.kind_get GEntry.kind_set GEntry.code_get GEntry.code_set GOp.length_enc GOp.ok_enc GOp.all_get GOp.all_set GOp.kind_get GOp.kind_set GOp.raw_get GOp.raw_set Reader.length_enc Reader.ok_enc Reader.all_get Reader.all_set Reader.buf_get Reader.buf_set Reader.at__get Reader.at__set Slot.length_enc Slot.ok_enc Slot.all_get Slot.all_set Slot.bound_get Slot.bound_set Slot.name_get Slot.name_set Session.length_enc Session.ok_enc Session.all_get Session.all_set Session.svc_get Session.svc_set Session.buf_get Session.buf_set Session.closed_get Session.closed_set GProgram.length_enc GProgram.ok_enc GProgram.all_get GProgram.all_set GProgram.pool_get GProgram.pool_set GProgram.preds_get GProgram.preds_set GProgram.rules_get GProgram.rules_set GProgram.strata_get GProgram.strata_set PredInfo.length_enc PredInfo.ok_enc PredInfo.all_get PredInfo.all_set PredInfo.arity_get PredInfo.arity_set PredInfo.base_get PredInfo.base_set PredInfo.stratum_get PredInfo.stratum_set Change.length_enc Change.ok_enc Change.all_get Change.all_set Change.del_get Change.del_set Change.pred_get Change.pred_set Change.t_get Change.t_set Store.length_enc Store.ok_enc Store.all_get Store.all_set Store.names_get Store.names_set Store.arity_get Store.arity_set Store.rows_get Store.rows_set Src.length_enc Src.ok_enc Src.all_get Src.all_set Src.b_get Src.b_set Src.at__get Src.at__set Atom.length_enc Atom.ok_enc Atom.all_get Atom.all_set Atom.pred_get Atom.pred_set Atom.args_get Atom.args_set GRule.length_enc GRule.ok_enc GRule.all_get GRule.all_set GRule.head_get GRule.head_set GRule.body_get GRule.body_set GRule.head_pred_get GRule.head_pred_set GRule.head_args_get GRule.head_args_set Cert.length_enc Cert.ok_enc Cert.all_get Cert.all_set Cert.names_get Cert.names_set Cert.nodes_get Cert.nodes_set Fact.length_enc Fact.ok_enc Fact.all_get Fact.all_set Fact.pred_get Fact.pred_set Fact.t_get Fact.t_set Literal.length_enc Literal.ok_enc Literal.all_get Literal.all_set Literal.neg_get Literal.neg_set Literal.atom_get Literal.atom_set Literal.atom_pred_get Literal.atom_pred_set Literal.atom_args_get Literal.atom_args_set Engine.length_enc Engine.ok_enc Engine.all_get Engine.all_set Engine.prog_get Engine.prog_set Engine.st_get Engine.st_set SrcCertm.length_enc SrcCertm.ok_enc SrcCertm.all_get SrcCertm.all_set SrcCertm.b_get SrcCertm.b_set SrcCertm.at__get SrcCertm.at__set GNode.length_enc GNode.ok_enc GNode.all_get GNode.all_set GNode.rule_get GNode.rule_set GNode.pred_get GNode.pred_set GNode.vals_get GNode.vals_set GNode.refs_get GNode.refs_set Term.length_enc Term.ok_enc Term.all_get Term.all_set Term.var_get Term.var_set Term.n_get Term.n_set Env.length_enc Env.ok_enc Env.all_get Env.all_set Env.val_get Env.val_set Env.set_get Env.set_set
attribute [local go_sem] size_put size_ext blk_put free_put blk_alloc free_alloc blk_drew free_drew blk_ext free_ext lookOr_some putOr_some segAt_some cellAt_some storeIn_some put_put put_alloc_new length_arr ok_arr_u8 ok_arr_u32 ok_arr_u64 ok_arr_i64 ok_arr_sl cellsV_agg cellsV_int cellsV_bool cellsV_string cellsV_pointer cellsV_slice cellsV_sl ok_int ok_bool ok_string ok_pointer ok_slice ok_sl toList_arr seg_arr set_arr nth_splice nth_splice0 seg_splice seg_splice0 splice_splice splice_splice0 length_splice_if
attribute [local go_sem ↓] execOp_box
attribute [local go_sem] box_run nth_arr_u8 put_arr_u8 blk_drewN free_drewN put_drewN blk_raw free_raw
theorem core_sub (O : Own) (W : World) : Sub (core O W) W := fun _ _ h => (core_blk h).1
/-- All changes in their order, up to the first that cannot be applied. -/
def chgs : List Change → Nat → List (List Tup) → Int × Int × List (List Tup)
  | [], _, B => (0, -1, B)
  | ch :: cs, i, B => if (changeF B ch).1 ≠ 0 then ((changeF B ch).1, (i : Int), B) else chgs cs (i + 1) (changeF B ch).2
/-- A batch, plainly. -/
def BatR (p : PP) (R : List (List Tup)) (cs : List Change) (code ix : Int) (R' : List (List Tup)) : Prop :=
  ((chgs cs 0 (basR p R)).1 ≠ 0 ∧ code = (chgs cs 0 (basR p R)).1 ∧ ix = (chgs cs 0 (basR p R)).2.1 ∧ R' = R) ∨
  ((chgs cs 0 (basR p R)).1 = 0 ∧ ∃ P, PerfTo p 0 (chgs cs 0 (basR p R)).2.2 P ∧ RInv p P ∧ code = (if overB P then 16 else 0) ∧ ix = -1 ∧ R' = if overB P then R else P)
theorem changeF_len (B : List (List Tup)) (ch : Change) : (changeF B ch).2.length = B.length := by
  unfold changeF addR
  repeat' split
  all_goals simp
def ebaI (W : World) (be bo n : Nat) (ca : Option Addr) (cn cc : Nat) (cs : List Change) (p : PP) (B0 : List (List Tup)) (f : Nat → Value) (V : World) : Prop := f 0 = .pointer (some ⟨be, 0, none⟩) ∧ f 1 = .slice ca cn cc ∧ f 6 = .slice (some ⟨bo, 0, none⟩) n n ∧ ∃ i : Nat, i ≤ cn ∧ f 7 = .int .i64 (i : Nat) ∧ Hid (∃ O B, RelO W bo B O V ∧ RInv p B ∧ chgs cs 0 B0 = chgs (cs.drop i) i B)
set_option maxRecDepth 100000 in
theorem frame30b (f : Nat → Value) : frameN 30 f = #[f 0, f 1, f 2, f 3, f 4, f 5, f 6, f 7, f 8, f 9, f 10, f 11, f 12, f 13, f 14, f 15, f 16, f 17, f 18, f 19, f 20, f 21, f 22, f 23, f 24, f 25, f 26, f 27, f 28, f 29] := by kernel_rfl
set_option maxRecDepth 40000 in
set_option maxHeartbeats 4000000 in
theorem ebatch_any {B : Nat} {O : Own} {W : World} {g be bi bst : Nat} {N : List (List UInt8)} {A : List Int} {R : List (List Tup)} {p : PP} (hE : blk W be = some (engE bi bst)) (hEO : O be = .no) (hp : ProgC W bi p) (hok : PPok p) (hS : Sto B O W g bst N A R) (hI : RInv p R) (hcap : overB R = false) (ca : Option Addr) (cn cc : Nat) (cs : List Change) (hC : Rw Change.enc 6 W ca cn cs) (hcn : cn ≤ 100000) (hch : ∀ ch ∈ cs, ChOk p.preds.length ch) : Calls Tryz.prog 139 #[.pointer (some ⟨be, 0, none⟩), .slice ca cn cc] W fun e V => ∃ code ix R', e = .returned (.tuple #[.int .i64 code, .int .i64 ix]) ∧ BatR p R cs code ix R' ∧ StoOut B O W g bst N A R' V := by
  obtain ⟨Q, hQ⟩ : ∃ Q : Ending → World → Prop, Q = fun e V => ∃ code ix R', e = .returned (.tuple #[.int .i64 code, .int .i64 ix]) ∧ BatR p R cs code ix R' ∧ StoOut B O W g bst N A R' V := ⟨_, rfl⟩
  rw [← hQ]
  have HQ := hid_of hQ
  have hba := base_any hE hp hok hS hI hcap
  have h64 := hok.nD
  obtain ⟨n, hn⟩ : ∃ n, n = p.preds.length := ⟨_, rfl⟩
  rw [← hn] at h64 hba
  have HN := hid_of hn
  have HP := hid_of hp
  have HS := hid_of hS
  have HI := hid_of hI
  have HE := hid_of hE
  have HEO := hid_of hEO
  have HK := hid_of hok
  have HCH := hid_of hch
  have HC := hid_of hC
  have hcl := hC.1
  have HCL := hid_of hcl
  clear hQ hp hok hS hI hn hEO hE hcap hch hC hcl
  go_enter Tryz.func139, Tryz.ntmps139
  go_wp2_with fail
  refine hba.mono ?_
  rintro e V1 ⟨bo, O1, rfl, hO1⟩
  have HI0 : Hid (∃ O B', RelO W bo B' O V1 ∧ RInv p B' ∧ chgs cs 0 (basR p R) = chgs (cs.drop 0) 0 B') := ⟨O1, _, hO1, basR_inv HI.out, rfl⟩
  clear hba hO1
  dsimp only
  go_upto_region 3 with fail
  refine wp_loop_f 30 (ebaI W be bo n ca cn cc cs p (basR p R)) (fun f _ => cn - (intOf (f 7)).toNat) rfl ⟨rfl, rfl, rfl, 0, by omega, rfl, HI0⟩ ?_
  clear HI0
  intro F V hrel
  obtain ⟨f0, f1, f6, i, hi, f7, HI1⟩ := hrel
  have H7 := hid_of f7
  rw [frame30b, f0, f1, f6, f7]
  clear f0 f1 f6 f7
  obtain ⟨O2, B2, hO2, hB2, hcs⟩ := HI1.out
  by_cases hin : i < cn
  · have hin' : (i : Int) < (cn : Int) := by omega
    obtain ⟨ch, hch⟩ : ∃ ch, cs[i]? = some ch := ⟨_, List.getElem?_eq_getElem (by rw [HCL.out]; exact hin)⟩
    obtain ⟨bc, Cc, v1, v2, v3, v4⟩ := (HC.out.grow hO2.ext).2 i ch hch
    subst v1
    have h6 : (i + 1) * 6 ≤ cn * 6 := Nat.mul_le_mul_right _ hin
    have v5 : i * 6 + 6 ≤ Cc.length := by omega
    have v6 : i * 6 < Cc.length := by omega
    have i0 : (0 : Int) ≤ (i : Int) := by omega
    have i2 : ((i : Int)).toNat = i := by omega
    have hco := HCH.out ch (List.mem_of_getElem? hch)
    have hcal := change_any hO2 hB2.1 ch (by rw [hB2.2]; exact hco) (by rw [hB2.2, ← HN.out]; omega)
    rw [hB2.2, ← HN.out] at hcal
    rw [dropA_at hch] at hcs
    have hcs' : chgs cs 0 (basR p R) = if (changeF B2 ch).1 ≠ 0 then ((changeF B2 ch).1, (i : Int), B2) else chgs (cs.drop (i + 1)) (i + 1) (changeF B2 ch).2 := hcs
    have hinv := changeF_inv hB2 hco
    have HCS := hid_of hcs'
    have HINV := hid_of hinv
    have HX2 := hid_of hO2.ext
    obtain ⟨cd, hcd⟩ : ∃ cd, cd = (changeF B2 ch).1 := ⟨_, rfl⟩
    obtain ⟨B3, hB3⟩ : ∃ B3, B3 = (changeF B2 ch).2 := ⟨_, rfl⟩
    unfold ChPost at hcal
    rw [← hcd, ← hB3] at hcal
    rw [← hcd, ← hB3] at HCS
    rw [← hB3] at HINV
    clear hcs hcs' hinv hO2 hB2 hch hco HI1 h6 hcd hB3
    go_wp2_with fail
    refine hcal.mono ?_
    rintro en V3 ⟨O3, rfl, hO3⟩
    clear hcal
    dsimp only
    by_cases hz : cd = 0
    · have hzb : (cd != 0) = false := by simp [hz]
      have HI' : Hid (∃ O B, RelO W bo B O V3 ∧ RInv p B ∧ chgs cs 0 (basR p R) = chgs (cs.drop (i + 1)) (i + 1) B) := by
        refine ⟨O3, B3, hO3, HINV.out, ?_⟩
        rw [HCS.out, if_neg (fun h => h hz)]
      subst hz
      clear hO3 HCS HINV HX2
      go_wp2_with fail
      refine ⟨rfl, rfl, ⟨rfl, rfl, rfl, i + 1, by omega, ?_, HI'⟩, ?_⟩
      · show Value.int .i64 _ = _
        go_num
      · show cn - (intOf (Value.int .i64 _)).toNat < cn - (intOf (F 7)).toNat
        rw [H7.out]
        simp [intOf]; omega
    · have hzb : (cd != 0) = true := by simp [hz]
      have HQ' : Hid (Q (.returned (.tuple #[.int .i64 cd, .int .i64 (i : Int)])) V3) := by
        show Q _ _
        rw [HQ.out]
        have e1 := HCS.out
        rw [if_pos hz] at e1
        refine ⟨cd, i, R, rfl, .inl ?_, _, Fr.of_extends hO3.ext, HS.out.ext hO3.ext⟩
        rw [e1]
        exact ⟨hz, rfl, rfl, rfl⟩
      clear hO3 HCS HINV HX2
      go_wp2_with fail
      try go_ret
      exact HQ'.out
  · have hin' : ¬ (i : Int) < (cn : Int) := by omega
    rw [List.drop_of_length_le (by rw [HCL.out]; omega)] at hcs
    have hcs' : chgs cs 0 (basR p R) = (0, -1, B2) := hcs
    have hrl := hO2.relR
    rw [hB2.2] at hrl
    have hxe := hO2.ext
    have hst := settleE_any ((hxe.blk (blk_lt HE.out)).trans HE.out) HEO.out (HP.out.ext hxe) HK.out (HS.out.ext hxe) HI.out (some ⟨bo, 0, none⟩) n B2 hrl hB2
    rw [← HN.out] at hst
    have HXE := hid_of hxe
    have HCS := hid_of hcs'
    clear hcs hcs' hrl hxe hO2 hB2 HI1
    go_wp2_with fail
    refine hst.mono ?_
    rintro en V3 ⟨P, hPT, hPI, rfl, O3, hF3, hS3⟩
    have HQ' : Hid (∀ cd, cd = (if overB P then (16 : Int) else 0) → Q (.returned (.tuple #[.int .i64 cd, .int .i64 (-1)])) V3) := by
      intro cd hcd
      rw [HQ.out]
      refine ⟨cd, -1, if overB P then R else P, rfl, .inr ?_, O3, (Fr.of_extends HXE.out).trans hF3, hS3⟩
      rw [HCS.out]
      exact ⟨rfl, P, hPT, hPI, hcd, rfl, rfl⟩
    obtain ⟨cd, hcd⟩ : ∃ cd, cd = (if overB P then (16 : Int) else 0) := ⟨_, rfl⟩
    rw [← hcd]
    have HQ2 := hid_of (HQ'.out cd hcd)
    clear hst hPT hPI hF3 hS3 HQ' hcd
    dsimp only
    go_wp2_with fail
    try go_ret
    exact HQ2.out
theorem build170a_lit (w : World) (q a b c d : Int) : (buildOp 248 #[(1, .int .i64 q), (2, .agg #[.int .i64 a, .int .i64 b, .int .i64 c, .int .i64 d])]).run Tryz.prog w = .ok (.value (.agg #[.bool false, .int .i64 q, .int .i64 a, .int .i64 b, .int .i64 c, .int .i64 d])) w := by kernel_rfl
theorem build170b_lit (w : World) (q a b c d : Int) : (buildOp 248 #[(0, .bool true), (1, .int .i64 q), (2, .agg #[.int .i64 a, .int .i64 b, .int .i64 c, .int .i64 d])]).run Tryz.prog w = .ok (.value (.agg #[.bool true, .int .i64 q, .int .i64 a, .int .i64 b, .int .i64 c, .int .i64 d])) w := by kernel_rfl
theorem bslice173_lit (w : World) (e : Bool) (q a b c d : Int) : (bsliceOp 251 1 #[(0, .agg #[.bool e, .int .i64 q, .int .i64 a, .int .i64 b, .int .i64 c, .int .i64 d])]).run Tryz.prog w = .ok (.value (.slice (some ⟨w.heap.size, 0, none⟩) 1 1)) (w.alloc (.cells #[.bool e, .int .i64 q, .int .i64 a, .int .i64 b, .int .i64 c, .int .i64 d] 248)) := by kernel_rfl
theorem ch_enc (e : Bool) (q : Int) (t : Tup) : Change.enc ⟨e, q, t⟩ = [.bool e, .int .i64 q, .int .i64 (tg t 0), .int .i64 (tg t 1), .int .i64 (tg t 2), .int .i64 (tg t 3)] := by
  unfold Change.enc
  rw [arr4]; rfl
theorem build170a (w : World) (q : Int) (t : Tup) : (buildOp 248 #[(1, .int .i64 q), (2, .agg (arr i64v t).toArray)]).run Tryz.prog w = .ok (.value (.agg (Change.enc ⟨false, q, t⟩).toArray)) w := by
  rw [ch_enc, arr4]; exact build170a_lit w q _ _ _ _
theorem build170b (w : World) (q : Int) (t : Tup) : (buildOp 248 #[(0, .bool true), (1, .int .i64 q), (2, .agg (arr i64v t).toArray)]).run Tryz.prog w = .ok (.value (.agg (Change.enc ⟨true, q, t⟩).toArray)) w := by
  rw [ch_enc, arr4]; exact build170b_lit w q _ _ _ _
theorem bslice173 (w : World) (e : Bool) (q : Int) (t : Tup) : (bsliceOp 251 1 #[(0, .agg (Change.enc ⟨e, q, t⟩).toArray)]).run Tryz.prog w = .ok (.value (.slice (some ⟨w.heap.size, 0, none⟩) 1 1)) (w.alloc (.cells (Change.enc ⟨e, q, t⟩).toArray 248)) := by
  rw [ch_enc]; exact bslice173_lit w e q _ _ _ _
attribute [local go_sem ↓] execOp_bslice execOp_build
attribute [local go_sem] build170a build170b bslice173
set_option maxRecDepth 40000 in
set_option maxHeartbeats 4000000 in
theorem einsert_any {B : Nat} {O : Own} {W : World} {g be bi bst : Nat} {N : List (List UInt8)} {A : List Int} {R : List (List Tup)} {p : PP} (hE : blk W be = some (engE bi bst)) (hEO : O be = .no) (hp : ProgC W bi p) (hok : PPok p) (hS : Sto B O W g bst N A R) (hI : RInv p R) (hcap : overB R = false) (q : Nat) (t : Tup) (hch : ChOk p.preds.length ⟨false, (q : Int), t⟩) : Calls Tryz.prog 134 #[.pointer (some ⟨be, 0, none⟩), .int .i64 (q : Int), .agg (arr i64v t).toArray] W fun e V => ∃ code ix R', e = .returned (.int .i64 code) ∧ BatR p R [⟨false, (q : Int), t⟩] code ix R' ∧ StoOut B O W g bst N A R' V := by
  obtain ⟨Q, hQ⟩ : ∃ Q : Ending → World → Prop, Q = fun e V => ∃ code ix R', e = .returned (.int .i64 code) ∧ BatR p R [⟨false, (q : Int), t⟩] code ix R' ∧ StoOut B O W g bst N A R' V := ⟨_, rfl⟩
  rw [← hQ]
  have HQ := hid_of hQ
  have hba : ∀ V a, W.Extends V → Rw Change.enc 6 V a 1 [⟨false, (q : Int), t⟩] → Calls Tryz.prog 139 #[.pointer (some ⟨be, 0, none⟩), .slice a 1 1] V (fun e V' => ∃ code ix R', e = .returned (.tuple #[.int .i64 code, .int .i64 ix]) ∧ Q (.returned (.int .i64 code)) V') := fun V a hx hr => by
    refine (ebatch_any ((hx.blk (blk_lt hE)).trans hE) hEO (hp.ext hx) hok (hS.ext hx) hI hcap a 1 1 _ hr (by omega) (fun ch hc => by rw [List.mem_singleton.1 hc]; exact hch)).mono ?_
    rintro e V' ⟨code, ix, R', rfl, h1, O', h2, h3⟩
    refine ⟨code, ix, R', rfl, ?_⟩
    rw [hQ]
    exact ⟨code, ix, R', rfl, h1, O', (Fr.of_extends hx).trans h2, h3⟩
  have HBA := hid_of hba
  clear hQ hba hE hEO hp hok hS hI hcap hch
  go_enter Tryz.func134, Tryz.ntmps134
  go_upto_region 1 with fail
  refine wp_world (fun V => W.Extends V ∧ blk V W.heap.size = some (arr i64v t)) ⟨extends_alloc (ext_Ext (Ext.refl _)) _, by rw [blk_alloc, if_pos rfl]⟩ ?_
  rintro V1 ⟨hx1, hb5⟩
  obtain ⟨b5, eb5⟩ : ∃ b5, b5 = W.heap.size := ⟨_, rfl⟩
  rw [← eb5] at hb5 ⊢
  have HX1 := hid_of hx1
  clear eb5 hx1
  repeat go_step
  refine (HBA.out _ _ (extends_alloc HX1.out _) ?_).mono ?_
  · refine ⟨rfl, fun i x hx => ?_⟩
    cases i with
    | zero =>
      obtain rfl := Option.some.inj hx
      exact ⟨_, _, rfl, by rw [blk_alloc, if_pos rfl], by rw [Change.length_enc]; omega, Change.all_get _⟩
    | succ i => simp at hx
  rintro e V2 ⟨code, ix, R', rfl, hq⟩
  have HP := hid_of hq
  clear hq
  dsimp only
  go_wp2_with fail
  try go_ret
  exact HP.out
set_option maxRecDepth 40000 in
set_option maxHeartbeats 4000000 in
theorem edelete_any {B : Nat} {O : Own} {W : World} {g be bi bst : Nat} {N : List (List UInt8)} {A : List Int} {R : List (List Tup)} {p : PP} (hE : blk W be = some (engE bi bst)) (hEO : O be = .no) (hp : ProgC W bi p) (hok : PPok p) (hS : Sto B O W g bst N A R) (hI : RInv p R) (hcap : overB R = false) (q : Nat) (t : Tup) (hch : ChOk p.preds.length ⟨true, (q : Int), t⟩) : Calls Tryz.prog 137 #[.pointer (some ⟨be, 0, none⟩), .int .i64 (q : Int), .agg (arr i64v t).toArray] W fun e V => ∃ code ix R', e = .returned (.int .i64 code) ∧ BatR p R [⟨true, (q : Int), t⟩] code ix R' ∧ StoOut B O W g bst N A R' V := by
  obtain ⟨Q, hQ⟩ : ∃ Q : Ending → World → Prop, Q = fun e V => ∃ code ix R', e = .returned (.int .i64 code) ∧ BatR p R [⟨true, (q : Int), t⟩] code ix R' ∧ StoOut B O W g bst N A R' V := ⟨_, rfl⟩
  rw [← hQ]
  have HQ := hid_of hQ
  have hba : ∀ V a, W.Extends V → Rw Change.enc 6 V a 1 [⟨true, (q : Int), t⟩] → Calls Tryz.prog 139 #[.pointer (some ⟨be, 0, none⟩), .slice a 1 1] V (fun e V' => ∃ code ix R', e = .returned (.tuple #[.int .i64 code, .int .i64 ix]) ∧ Q (.returned (.int .i64 code)) V') := fun V a hx hr => by
    refine (ebatch_any ((hx.blk (blk_lt hE)).trans hE) hEO (hp.ext hx) hok (hS.ext hx) hI hcap a 1 1 _ hr (by omega) (fun ch hc => by rw [List.mem_singleton.1 hc]; exact hch)).mono ?_
    rintro e V' ⟨code, ix, R', rfl, h1, O', h2, h3⟩
    refine ⟨code, ix, R', rfl, ?_⟩
    rw [hQ]
    exact ⟨code, ix, R', rfl, h1, O', (Fr.of_extends hx).trans h2, h3⟩
  have HBA := hid_of hba
  clear hQ hba hE hEO hp hok hS hI hcap hch
  go_enter Tryz.func137, Tryz.ntmps137
  go_upto_region 1 with fail
  refine wp_world (fun V => W.Extends V ∧ blk V W.heap.size = some (arr i64v t)) ⟨extends_alloc (ext_Ext (Ext.refl _)) _, by rw [blk_alloc, if_pos rfl]⟩ ?_
  rintro V1 ⟨hx1, hb5⟩
  obtain ⟨b5, eb5⟩ : ∃ b5, b5 = W.heap.size := ⟨_, rfl⟩
  rw [← eb5] at hb5 ⊢
  have HX1 := hid_of hx1
  clear eb5 hx1
  repeat go_step
  refine (HBA.out _ _ (extends_alloc HX1.out _) ?_).mono ?_
  · refine ⟨rfl, fun i x hx => ?_⟩
    cases i with
    | zero =>
      obtain rfl := Option.some.inj hx
      exact ⟨_, _, rfl, by rw [blk_alloc, if_pos rfl], by rw [Change.length_enc]; omega, Change.all_get _⟩
    | succ i => simp at hx
  rintro e V2 ⟨code, ix, R', rfl, hq⟩
  have HP := hid_of hq
  clear hq
  dsimp only
  go_wp2_with fail
  try go_ret
  exact HP.out
end Go.Proofs.Qxb6500787aGreat
