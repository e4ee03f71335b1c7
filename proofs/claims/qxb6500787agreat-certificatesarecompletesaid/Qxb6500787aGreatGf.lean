import Derived.Test.Qxb6500787aGreatGe
import Derived.Test.Qxb6500787aGreatMm

import Derived.StillTailTactics
import Derived.Deep.QuietTactic
import Derived.BigQuiet
import Derived.Deep.RegionHeld
import Derived.Deep.CutRange
import Derived.Laws.ResultCell
import Derived.Laws.Rows
import Derived.DeepKeys
import Derived.DataBytes
import Derived.Laws.StructEq
import Derived.Laws.AppendOwn
import Derived.Laws.MakeOwn
import Derived.Lib.AppendStr
set_option linter.unusedSimpArgs false
set_option linter.unusedVariables false
namespace Go.Proofs.Qxb6500787aGreat
open Go.RowKit Go.Blk
attribute [local go_sem ↓] execOp_load execOp_store execOp_alloc
attribute [local go_sem] Tryz.ld26 Tryz.st26 Tryz.ld27 Tryz.st27 Tryz.ld28 Tryz.st28 Tryz.ld3 Tryz.st3 Tryz.ld29 Tryz.st29 Tryz.ld44 Tryz.st44 Tryz.ld4 Tryz.st4 Tryz.ld50 Tryz.st50 Tryz.ld32 Tryz.st32 Tryz.ld49 Tryz.st49 Tryz.ld68 Tryz.st68 Tryz.ld9 Tryz.st9 Tryz.ld40 Tryz.st40 Tryz.ld138 Tryz.st138 Tryz.ld139 Tryz.st139 Tryz.ld146 Tryz.st146 Tryz.ld183 Tryz.st183 Tryz.ld184 Tryz.st184 Tryz.ld192 Tryz.st192 Tryz.ld195 Tryz.st195 Tryz.ld217 Tryz.st217 Tryz.ld159 Tryz.st159 Tryz.ld142 Tryz.st142 Tryz.ld2 Tryz.st2 Tryz.ld5 Tryz.st5 Tryz.ld12 Tryz.st12 Tryz.ld21 Tryz.st21 Tryz.ld22 Tryz.st22 Tryz.ld24 Tryz.st24 Tryz.ld58 Tryz.st58 Tryz.ld97 Tryz.st97 Tryz.ld101 Tryz.st101 Tryz.ld116 Tryz.st116 Tryz.ld121 Tryz.st121 Tryz.ld135 Tryz.st135 Tryz.ld136 Tryz.st136 Tryz.ld143 Tryz.st143 Tryz.ld148 Tryz.st148 Tryz.ld154 Tryz.st154 Tryz.ld173 Tryz.st173 Tryz.ld187 Tryz.st187 Tryz.ld222 Tryz.st222 Tryz.ld241 Tryz.st241 Tryz.ld248 Tryz.st248 Tryz.ld268 Tryz.st268 Tryz.ld272 Tryz.st272 Tryz.ld153 Tryz.st153 Tryz.ld255 Tryz.st255 Tryz.ld256 Tryz.st256 Tryz.ld129 Tryz.st129 Tryz.ld152 Tryz.st152 Tryz.ld31 Tryz.st31 Tryz.ld46 Tryz.st46 Tryz.ld52 Tryz.st52 Tryz.ld54 Tryz.st54 Tryz.ld60 Tryz.st60 Tryz.ld70 Tryz.st70 Tryz.ld74 Tryz.st74 Tryz.ld93 Tryz.st93 Tryz.ld141 Tryz.st141 Tryz.ld151 Tryz.st151 Tryz.ld170 Tryz.st170 Tryz.ld186 Tryz.st186 Tryz.ld189 Tryz.st189 Tryz.ld194 Tryz.st194 Tryz.ld197 Tryz.st197 Tryz.ld219 Tryz.st219 Tryz.ld224 Tryz.st224 Tryz.ld230 Tryz.st230 Tryz.ld235 Tryz.st235 Tryz.ld243 Tryz.st243 Tryz.ld247 Tryz.st247 Tryz.ld252 Tryz.st252 Tryz.ld258 Tryz.st258 Tryz.al153 Tryz.al255 Tryz.al256 Tryz.al129 Tryz.al152 Tryz.al31 Tryz.al46 Tryz.al52 Tryz.al54 Tryz.al60 Tryz.al70 Tryz.al74 Tryz.al93 Tryz.al141 Tryz.al151 Tryz.al170 Tryz.al186 Tryz.al189 Tryz.al194 Tryz.al197 Tryz.al219 Tryz.al224 Tryz.al230 Tryz.al235 Tryz.al243 Tryz.al247 Tryz.al252 Tryz.al258
attribute [local go_sem] Request.length_enc Request.ok_enc Request.all_get Request.all_set Request.kind_get Request.kind_set Request.blob_get Request.blob_set Request.items_get Request.items_set Request.pred_get Request.pred_set Request.slots_get Request.slots_set Trace.length_enc Trace.ok_enc Trace.all_get Trace.all_set Trace.op_get Trace.op_set Trace.calls_get Trace.calls_set Item.length_enc Item.ok_enc Item.all_get Item.all_set Item.del_get Item.del_set Item.pred_get Item.pred_set Item.args_get Item.args_set Reply.length_enc Reply.ok_enc Reply.all_get Reply.all_set Reply.code_get Reply.code_set Reply.kind_get Reply.kind_set Reply.index_get Reply.index_set Reply.yes_get Reply.yes_set Reply.preds_get Reply.preds_set Reply.rules_get Reply.rules_set Reply.arity_get Reply.arity_set Reply.rows_get Reply.rows_set Reply.fact_get Reply.fact_set Reply.fact_del_get Reply.fact_del_set Reply.fact_pred_get Reply.fact_pred_set Reply.fact_args_get Reply.fact_args_set GEntry.length_enc GEntry.ok_enc GEntry.all_get GEntry.all_set GEntry.seq_get GEntry.seq_set GEntry.kind_get GEntry.kind_set GEntry.code_get GEntry.code_set GOp.length_enc GOp.ok_enc GOp.all_get GOp.all_set GOp.kind_get GOp.kind_set GOp.raw_get GOp.raw_set Reader.length_enc Reader.ok_enc Reader.all_get Reader.all_set Reader.buf_get Reader.buf_set Reader.at__get Reader.at__set Slot.length_enc Slot.ok_enc Slot.all_get Slot.all_set Slot.bound_get Slot.bound_set Slot.name_get Slot.name_set Session.length_enc Session.ok_enc Session.all_get Session.all_set Session.svc_get Session.svc_set Session.buf_get Session.buf_set Session.closed_get Session.closed_set GProgram.length_enc GProgram.ok_enc GProgram.all_get GProgram.all_set GProgram.pool_get GProgram.pool_set GProgram.preds_get GProgram.preds_set GProgram.rules_get GProgram.rules_set GProgram.strata_get GProgram.strata_set PredInfo.length_enc PredInfo.ok_enc PredInfo.all_get PredInfo.all_set PredInfo.arity_get PredInfo.arity_set PredInfo.base_get PredInfo.base_set PredInfo.stratum_get PredInfo.stratum_set Change.length_enc Change.ok_enc Change.all_get Change.all_set Change.del_get Change.del_set Change.pred_get Change.pred_set Change.t_get Change.t_set Store.length_enc Store.ok_enc Store.all_get Store.all_set Store.names_get Store.names_set Store.arity_get Store.arity_set Store.rows_get Store.rows_set Src.length_enc Src.ok_enc Src.all_get Src.all_set Src.b_get Src.b_set Src.at__get Src.at__set Atom.length_enc Atom.ok_enc Atom.all_get Atom.all_set Atom.pred_get Atom.pred_set Atom.args_get Atom.args_set GRule.length_enc GRule.ok_enc GRule.all_get GRule.all_set GRule.head_get GRule.head_set GRule.body_get GRule.body_set GRule.head_pred_get GRule.head_pred_set GRule.head_args_get GRule.head_args_set Cert.length_enc Cert.ok_enc Cert.all_get Cert.all_set Cert.names_get Cert.names_set Cert.nodes_get Cert.nodes_set Fact.length_enc Fact.ok_enc Fact.all_get Fact.all_set Fact.pred_get Fact.pred_set Fact.t_get Fact.t_set Literal.length_enc Literal.ok_enc Literal.all_get Literal.all_set Literal.neg_get Literal.neg_set Literal.atom_get Literal.atom_set Literal.atom_pred_get Literal.atom_pred_set Literal.atom_args_get Literal.atom_args_set Engine.length_enc Engine.ok_enc Engine.all_get Engine.all_set Engine.prog_get Engine.prog_set Engine.st_get Engine.st_set SrcCertm.length_enc SrcCertm.ok_enc SrcCertm.all_get SrcCertm.all_set SrcCertm.b_get SrcCertm.b_set SrcCertm.at__get SrcCertm.at__set GNode.length_enc GNode.ok_enc GNode.all_get GNode.all_set GNode.rule_get GNode.rule_set GNode.pred_get GNode.pred_set GNode.vals_get GNode.vals_set GNode.refs_get GNode.refs_set Term.length_enc Term.ok_enc Term.all_get Term.all_set Term.var_get Term.var_set Term.n_get Term.n_set Env.length_enc Env.ok_enc Env.all_get Env.all_set Env.val_get Env.val_set Env.set_get Env.set_set
attribute [local go_sem] size_put size_ext blk_put free_put blk_alloc free_alloc blk_drew free_drew blk_ext free_ext lookOr_some putOr_some segAt_some cellAt_some storeIn_some put_put put_alloc_new length_arr ok_arr_u8 ok_arr_u32 ok_arr_u64 ok_arr_i64 ok_arr_sl cellsV_agg cellsV_int cellsV_bool cellsV_string cellsV_pointer cellsV_slice cellsV_sl ok_int ok_bool ok_string ok_pointer ok_slice ok_sl toList_arr seg_arr set_arr nth_splice nth_splice0 seg_splice seg_splice0 splice_splice splice_splice0 length_splice_if
attribute [local go_sem ↓] execOp_box
attribute [local go_sem] box_run nth_arr_u8 put_arr_u8 blk_drewN free_drewN put_drewN blk_raw free_raw
/-- A world with nothing in its memory. -/
def bareW (V : World) : World := { V with heap := #[] }
theorem bareW_ext (V : World) : (bareW V).Extends V := ext_of rfl rfl rfl (Nat.zero_le _) (fun k hk => absurd hk (by show ¬ k < 0; omega))
/-- A row of its own that a callee let grow. -/
theorem rowL_gro {α : Type} {en : α → List Value} {sz : Nat} {B : Nat} {O : Own} {l : Lab} {W V : World} {e : TypeId} {a a' : Option Addr} {n n' c c' : Nat} {K K' : List α} (h : RowL B O l W e sz (.slice a n c) K.length (K.flatMap en)) (hB : B ≤ W.heap.size) (ho : OutG en sz e (bareW W) V a' n' c' K') (hg : Gro W V (.slice a n c) (.slice a' n' c')) : RowL B (lab O W.heap.size l) l V e sz (.slice a' n' c') K'.length (K'.flatMap en) ∧ Fr (fun y => y = l) O W (lab O W.heap.size l) V := by
  have hl : ∀ k, (Value.slice a' n' c').ownBlock = some k → lab O W.heap.size l k = l ∧ B ≤ k := fun k hk => by
    rcases hg.own k hk with h9 | h9
    · have h8 := row_at h.1 k h9
      rw [lab_lt h8.2.1]
      exact ⟨h.2 k h9, h8.1⟩
    · exact ⟨lab_ge h9, Nat.le_trans hB h9⟩
  refine ⟨⟨?_, fun k hk => (hl k hk).1⟩, ho.2.1.os, ho.2.1.tape, ho.2.1.output, hg.size, fun k hk => lab_lt hk, fun k hk hne => hg.block k hk (fun e => hne (h.2 k e))⟩
  obtain ⟨r1, r2⟩ := ho.1
  refine ⟨r1, ?_⟩
  rcases r2 with r2 | ⟨k, cap, cur, e1, r3, r4⟩
  · exact .inl r2
  · exact .inr ⟨k, cap, cur, e1, (hl k (by rw [e1]; rfl)).2, r4⟩
/-- The certificate that is being built: its block and its names. -/
structure NmS (B : Nat) (O : Own) (V : World) (bc : Nat) (na : Option Addr) (nn nc : Nat) (v1 : Value) (K : List (List UInt8)) : Prop where
  cell : blk V bc = some [.slice na nn nc, v1]
  fre : free V bc = true
  own : O bc = .a 9 2
  row : RowL B O (.a 9 3) V 9 1 (.slice na nn nc) K.length (K.flatMap encS)
  bb : B ≤ V.heap.size
def isN (l : Lab) : Prop := l = .a 9 2 ∨ l = .a 9 3
def zNa (V0 : World) (bc : Nat) (s : ByteArray) (K : List (List UInt8)) (kn : Nat) (x : List UInt8) (f : Nat → Value) (V : World) : Prop := f 0 = .pointer (some ⟨bc, 0, none⟩) ∧ f 1 = .string s ∧ Hid (V = V0) ∧ ∃ i : Nat, i ≤ kn ∧ f 5 = .int .i64 (i : Nat) ∧ Hid (∀ j y, j < i → K[j]? = some y → y ≠ x)
set_option maxRecDepth 100000 in
theorem zframe34n (f : Nat → Value) : frameN 34 f = #[f 0, f 1, f 2, f 3, f 4, f 5, f 6, f 7, f 8, f 9, f 10, f 11, f 12, f 13, f 14, f 15, f 16, f 17, f 18, f 19, f 20, f 21, f 22, f 23, f 24, f 25, f 26, f 27, f 28, f 29, f 30, f 31, f 32, f 33] := by kernel_rfl
theorem idx_of {K : List (List UInt8)} {x : List UInt8} {i : Nat} (hi : K[i]? = some x) (h : ∀ j y, j < i → K[j]? = some y → y ≠ x) : K.idxOf x = i := by
  obtain ⟨hl, e⟩ := List.getElem?_eq_some_iff.1 hi
  have h1 : K.idxOf x < K.length := List.idxOf_lt_length_iff.2 (e ▸ List.getElem_mem hl)
  have h2 : K[K.idxOf x] = x := List.getElem_idxOf h1
  rcases Nat.lt_trichotomy (K.idxOf x) i with h3 | h3 | h3
  · exact absurd h2 (h _ _ h3 (List.getElem?_eq_getElem h1))
  · exact h3
  · exfalso
    have := List.not_of_lt_findIdx (p := (· == x)) (xs := K) (i := i) h3
    simp [e] at this
set_option maxRecDepth 20000 in
set_option maxHeartbeats 2000000 in
theorem nameAt_any {B : Nat} {O : Own} {V : World} {bc : Nat} {na : Option Addr} {nn nc : Nat} {v1 : Value} {K : List (List UInt8)} (h : NmS B O V bc na nn nc v1 K) (hl : K.length ≤ 900000000) (x : List UInt8) : Calls Tryz.prog 85 #[.pointer (some ⟨bc, 0, none⟩), .string ⟨x.toArray⟩] V fun e V' => ∃ na' nc', e = .returned (.int .i64 (((addN K x).idxOf x : Nat) : Int)) ∧ NmS B (lab O V.heap.size (.a 9 3)) V' bc na' (addN K x).length nc' v1 (addN K x) ∧ Fr isN O V (lab O V.heap.size (.a 9 3)) V' := by
  obtain ⟨K', eK⟩ : ∃ K', K' = addN K x := ⟨_, rfl⟩
  obtain ⟨Q, hQ⟩ : ∃ Q : Ending → World → Prop, Q = fun e V' => ∃ na' nc', e = .returned (.int .i64 (((addN K x).idxOf x : Nat) : Int)) ∧ NmS B (lab O V.heap.size (.a 9 3)) V' bc na' (addN K x).length nc' v1 (addN K x) ∧ Fr isN O V (lab O V.heap.size (.a 9 3)) V' := ⟨_, rfl⟩
  rw [← hQ]
  rw [← eK] at hQ
  have HQ := hid_of hQ
  have hxm : x ∈ K' := by rw [eK]; exact addN_mem.2 (.inr rfl)
  have HXM := hid_of hxm
  have had := addName_any (W0 := bareW V) (V := V) (a := na) (n := nn) (c := nc) (L := K) ⟨by
    obtain ⟨r1, r2⟩ := h.row.1
    refine ⟨r1, ?_⟩
    rcases r2 with r2 | ⟨k, cap, cur, e1, r3, r4⟩
    · exact .inl r2
    · exact .inr ⟨k, cap, cur, e1, Nat.zero_le _, r4⟩, bareW_ext V, by
    have h9 := (h.row.rw encS_len).1.1
    exact h9.symm⟩ (by omega) x
  rw [← eK] at had
  obtain ⟨kn, ekn⟩ : ∃ kn, kn = K'.length := ⟨_, rfl⟩
  unfold AdPost at had
  rw [← ekn] at had HQ
  have HKN := hid_of ekn
  have HS := hid_of h
  obtain ⟨CE, eCE⟩ : ∃ CE, CE = [Value.slice na nn nc, v1] := ⟨_, rfl⟩
  have ce0 : nth CE 0 = some (.slice na nn nc) := by rw [eCE]; rfl
  have cel : CE.length = 2 := by rw [eCE]; rfl
  have cel0 : 0 < CE.length := by omega
  have cel1 : 0 + 1 ≤ CE.length := by omega
  have hbc := h.cell
  rw [← eCE] at hbc
  have HCE := hid_of eCE
  have hfc := h.fre
  have hkn : kn ≤ 900000001 := by
    rw [ekn, eK]
    unfold addN
    split
    · omega
    · rw [List.length_append, List.length_singleton]; omega
  obtain ⟨s, es⟩ : ∃ s : ByteArray, s = ⟨x.toArray⟩ := ⟨_, rfl⟩
  rw [← es] at had ⊢
  have HES := hid_of es
  clear hQ h eK ekn es hxm eCE
  go_enter Tryz.func85, Tryz.ntmps85
  go_wp2_with fail
  refine had.mono ?_
  rintro e V1 ⟨a1, c1, rfl, hO1, hg1⟩
  dsimp only
  obtain ⟨hR1, hF1⟩ := rowL_gro HS.out.row HS.out.bb hO1 hg1
  have hbcl := blk_lt hbc
  have hne : ¬ (fun y => y = Lab.a 9 3) (O bc) := by rw [HS.out.own]; exact fun e => by have := (Lab.a.inj e).2; omega
  have hbc1 : blk V1 bc = some CE := hF1.blk hbc hne
  have hfc1 : free V1 bc = true := hF1.free hbc hfc hne
  have hob1 : lab O V.heap.size (.a 9 3) bc = .a 9 2 := by rw [lab_lt hbcl]; exact HS.out.own
  have HF1 := hid_of hF1
  have HR1 := hid_of hR1
  have hHR : Hid (Rw encS 1 V1 a1 kn K') := (hR1.rw encS_len).1
  have HKR := hHR
  clear had hO1 hg1 hR1 hF1 hne hHR
  obtain ⟨CF, eCF⟩ : ∃ CF, CF = splice CE 0 [.slice a1 kn c1] := ⟨_, rfl⟩
  have eCF2 : CF = [.slice a1 kn c1, v1] := by rw [eCF, HCE.out]; rfl
  have cf0 : nth CF 0 = some (.slice a1 kn c1) := by rw [eCF2]; rfl
  have cfl0 : 0 < CF.length := by rw [eCF2]; show 0 < 2; omega
  have HCF := hid_of eCF2
  obtain ⟨W2, eW2⟩ : ∃ W2, W2 = put V1 bc CF := ⟨_, rfl⟩
  have hlenF : CF.length = CE.length := by rw [eCF2, cel]; rfl
  have hbc2 : blk W2 bc = some CF := by rw [eW2, blk_put, if_pos rfl, hbc1]; rfl
  have HP : Hid (Q (.returned (.int .i64 ((K'.idxOf x : Nat) : Int))) W2) := by
    show Q _ _
    rw [HQ.out]
    have hFp : Fr (fun l => l = .a 9 2) (lab O V.heap.size (.a 9 3)) V1 (lab O V.heap.size (.a 9 3)) (put V1 bc CF) := (Fr.refl _ _ _).put (L := fun l => l = .a 9 2) hob1 _
    have hrow := HR1.out.fr hFp (fun e => by have := (Lab.a.inj e).2; omega)
    rw [eW2]
    refine ⟨a1, c1, rfl, ⟨by rw [blk_put, if_pos rfl, hbc1, ← HCF.out]; rfl, by rw [free_put]; exact hfc1, hob1, hrow, Nat.le_trans HS.out.bb (Nat.le_trans HF1.out.size hFp.size)⟩, (HF1.out.mono (fun l e => .inr e)).trans (hFp.mono (fun l e => .inl e))⟩
  have HW2 : Hid (Rw encS 1 W2 a1 kn K') := by
    show Rw _ _ _ _ _ _
    have hFp : Fr (fun l => l = .a 9 2) (lab O V.heap.size (.a 9 3)) V1 (lab O V.heap.size (.a 9 3)) (put V1 bc CF) := (Fr.refl _ _ _).put (L := fun l => l = .a 9 2) hob1 _
    rw [eW2]
    exact ((HR1.out.fr hFp (fun e => by have := (Lab.a.inj e).2; omega)).rw encS_len).1
  have hpe : put V1 bc (splice CE 0 [.slice a1 kn c1]) = W2 := by rw [eW2, eCF]
  clear eW2 eCF eCF2
  go_upto_region 3 with fail
  try rw [hpe]
  refine wp_loop_f 34 (zNa W2 bc s K' kn x) (fun f _ => kn - (intOf (f 5)).toNat) rfl ⟨rfl, rfl, by first | exact hpe | rfl, 0, by omega, rfl, fun j y hj => by omega⟩ ?_
  clear hpe hbc1 hfc1 HF1 HR1 HKR hbc hfc
  intro F W hrel
  obtain ⟨f0, f1, HWW, i, hi, f5, HI⟩ := hrel
  obtain rfl : W = W2 := HWW.out
  have H5 := hid_of f5
  rw [zframe34n, f0, f1, f5]
  clear f0 f1 f5 HWW
  by_cases hin : i < kn
  rotate_left 1
  · exfalso
    obtain ⟨j, hj⟩ := List.mem_iff_getElem?.1 HXM.out
    have := (List.getElem?_eq_some_iff.1 hj).1
    exact HI.out j x (by have := HKN.out; omega) hj rfl
  have hin' : (i : Int) < (kn : Int) := by omega
  have p0 : (0 : Int) ≤ (i : Int) := by omega
  have p2 : ((i : Int)).toNat = i := by omega
  obtain ⟨y, hy⟩ : ∃ y, K'[i]? = some y := ⟨_, List.getElem?_eq_getElem (by rw [← HKN.out]; exact hin)⟩
  obtain ⟨bn, Cn, rfl, g1, g2, g3⟩ := str_at HW2.out hy
  by_cases hyx : y = x
  · subst hyx
    have hid := idx_of hy HI.out
    rw [← HES.out] at g3
    rw [hid] at HP
    clear hid hy HI HXM HW2
    go_wp2_with fail
    try go_ret
    exact HP.out
  · have hbe := str_beq hyx
    have hne := str_ne hyx
    have es := HES.out
    subst es
    have HI' : Hid (∀ j z, j < i + 1 → K'[j]? = some z → z ≠ x) := fun j z hj hz => by
      by_cases e : j = i
      · rw [e, hy] at hz; rw [← Option.some.inj hz]; exact hyx
      · exact HI.out j z (by omega) hz
    clear hy HI hyx
    go_wp2_with fail
    refine ⟨rfl, rfl, ⟨rfl, rfl, rfl, i + 1, by omega, ?_, HI'⟩, ?_⟩
    · show Value.int .i64 _ = _
      go_num
    · show kn - (intOf (Value.int .i64 _)).toNat < kn - (intOf (F 5)).toNat
      rw [H5.out]
      simp [intOf]; omega
end Go.Proofs.Qxb6500787aGreat
