
import Derived.Test.Qxb6500787aGreatTb
import Derived.StillTailTactics
import Derived.Deep.QuietTactic
import Derived.BigQuiet
import Derived.Deep.RegionHeld
import Derived.Deep.CutRange
import Derived.Laws.ResultCell
import Derived.Laws.Rows
import Derived.DeepKeys
import Derived.DataBytes
import Derived.Laws.StructEq
import Derived.Laws.AppendOwn
import Derived.Laws.MakeOwn
import Derived.Lib.AppendStr
set_option linter.unusedSimpArgs false
set_option linter.unusedVariables false
namespace Go.Proofs.Qxb6500787aGreat
open Go.RowKit Go.Blk
attribute [local go_sem ↓] execOp_load execOp_store execOp_alloc
attribute [local go_sem] Tryz.ld26 Tryz.st26 Tryz.ld27 Tryz.st27 Tryz.ld28 Tryz.st28 Tryz.ld3 Tryz.st3 Tryz.ld29 Tryz.st29 Tryz.ld44 Tryz.st44 Tryz.ld4 Tryz.st4 Tryz.ld50 Tryz.st50 Tryz.ld32 Tryz.st32 Tryz.ld49 Tryz.st49 Tryz.ld68 Tryz.st68 Tryz.ld9 Tryz.st9 Tryz.ld40 Tryz.st40 Tryz.ld138 Tryz.st138 Tryz.ld139 Tryz.st139 Tryz.ld146 Tryz.st146 Tryz.ld183 Tryz.st183 Tryz.ld184 Tryz.st184 Tryz.ld192 Tryz.st192 Tryz.ld195 Tryz.st195 Tryz.ld217 Tryz.st217 Tryz.ld159 Tryz.st159 Tryz.ld142 Tryz.st142 Tryz.ld2 Tryz.st2 Tryz.ld5 Tryz.st5 Tryz.ld12 Tryz.st12 Tryz.ld21 Tryz.st21 Tryz.ld22 Tryz.st22 Tryz.ld24 Tryz.st24 Tryz.ld58 Tryz.st58 Tryz.ld97 Tryz.st97 Tryz.ld101 Tryz.st101 Tryz.ld116 Tryz.st116 Tryz.ld121 Tryz.st121 Tryz.ld135 Tryz.st135 Tryz.ld136 Tryz.st136 Tryz.ld143 Tryz.st143 Tryz.ld148 Tryz.st148 Tryz.ld154 Tryz.st154 Tryz.ld173 Tryz.st173 Tryz.ld187 Tryz.st187 Tryz.ld222 Tryz.st222 Tryz.ld241 Tryz.st241 Tryz.ld248 Tryz.st248 Tryz.ld268 Tryz.st268 Tryz.ld272 Tryz.st272 Tryz.ld153 Tryz.st153 Tryz.ld255 Tryz.st255 Tryz.ld256 Tryz.st256 Tryz.ld129 Tryz.st129 Tryz.ld152 Tryz.st152 Tryz.ld31 Tryz.st31 Tryz.ld46 Tryz.st46 Tryz.ld52 Tryz.st52 Tryz.ld54 Tryz.st54 Tryz.ld60 Tryz.st60 Tryz.ld70 Tryz.st70 Tryz.ld74 Tryz.st74 Tryz.ld93 Tryz.st93 Tryz.ld141 Tryz.st141 Tryz.ld151 Tryz.st151 Tryz.ld170 Tryz.st170 Tryz.ld186 Tryz.st186 Tryz.ld189 Tryz.st189 Tryz.ld194 Tryz.st194 Tryz.ld197 Tryz.st197 Tryz.ld219 Tryz.st219 Tryz.ld224 Tryz.st224 Tryz.ld230 Tryz.st230 Tryz.ld235 Tryz.st235 Tryz.ld243 Tryz.st243 Tryz.ld247 Tryz.st247 Tryz.ld252 Tryz.st252 Tryz.ld258 Tryz.st258 Tryz.al153 Tryz.al255 Tryz.al256 Tryz.al129 Tryz.al152 Tryz.al31 Tryz.al46 Tryz.al52 Tryz.al54 Tryz.al60 Tryz.al70 Tryz.al74 Tryz.al93 Tryz.al141 Tryz.al151 Tryz.al170 Tryz.al186 Tryz.al189 Tryz.al194 Tryz.al197 Tryz.al219 Tryz.al224 Tryz.al230 Tryz.al235 Tryz.al243 Tryz.al247 Tryz.al252 Tryz.al258
attribute [local go_sem] Request.length_enc Request.ok_enc Request.all_get Request.all_set Request.kind_get Request.kind_set Request.blob_get Request.blob_set Request.items_get Request.items_set Request.pred_get Request.pred_set Request.slots_get Request.slots_set Trace.length_enc Trace.ok_enc Trace.all_get Trace.all_set Trace.op_get Trace.op_set Trace.calls_get Trace.calls_set Item.length_enc Item.ok_enc Item.all_get Item.all_set Item.del_get Item.del_set Item.pred_get Item.pred_set Item.args_get Item.args_set Reply.length_enc Reply.ok_enc Reply.all_get Reply.all_set Reply.code_get Reply.code_set Reply.kind_get Reply.kind_set Reply.index_get Reply.index_set Reply.yes_get Reply.yes_set Reply.preds_get Reply.preds_set Reply.rules_get Reply.rules_set Reply.arity_get Reply.arity_set Reply.rows_get Reply.rows_set Reply.fact_get Reply.fact_set Reply.fact_del_get Reply.fact_del_set Reply.fact_pred_get Reply.fact_pred_set Reply.fact_args_get Reply.fact_args_set GEntry.length_enc GEntry.ok_enc GEntry.all_get GEntry.all_set GEntry.seq_get GEntry.seq_set GEntry.kind_get GEntry.kind_set GEntry.code_get GEntry.code_set GOp.length_enc GOp.ok_enc GOp.all_get GOp.all_set GOp.kind_get GOp.kind_set GOp.raw_get GOp.raw_set Reader.length_enc Reader.ok_enc Reader.all_get Reader.all_set Reader.buf_get Reader.buf_set Reader.at__get Reader.at__set Slot.length_enc Slot.ok_enc Slot.all_get Slot.all_set Slot.bound_get Slot.bound_set Slot.name_get Slot.name_set Session.length_enc Session.ok_enc Session.all_get Session.all_set Session.svc_get Session.svc_set Session.buf_get Session.buf_set Session.closed_get Session.closed_set GProgram.length_enc GProgram.ok_enc GProgram.all_get GProgram.all_set GProgram.pool_get GProgram.pool_set GProgram.preds_get GProgram.preds_set GProgram.rules_get GProgram.rules_set GProgram.strata_get GProgram.strata_set PredInfo.length_enc PredInfo.ok_enc PredInfo.all_get PredInfo.all_set PredInfo.arity_get PredInfo.arity_set PredInfo.base_get PredInfo.base_set PredInfo.stratum_get PredInfo.stratum_set Change.length_enc Change.ok_enc Change.all_get Change.all_set Change.del_get Change.del_set Change.pred_get Change.pred_set Change.t_get Change.t_set Store.length_enc Store.ok_enc Store.all_get Store.all_set Store.names_get Store.names_set Store.arity_get Store.arity_set Store.rows_get Store.rows_set Src.length_enc Src.ok_enc Src.all_get Src.all_set Src.b_get Src.b_set Src.at__get Src.at__set Atom.length_enc Atom.ok_enc Atom.all_get Atom.all_set Atom.pred_get Atom.pred_set Atom.args_get Atom.args_set GRule.length_enc GRule.ok_enc GRule.all_get GRule.all_set GRule.head_get GRule.head_set GRule.body_get GRule.body_set GRule.head_pred_get GRule.head_pred_set GRule.head_args_get GRule.head_args_set Cert.length_enc Cert.ok_enc Cert.all_get Cert.all_set Cert.names_get Cert.names_set Cert.nodes_get Cert.nodes_set Fact.length_enc Fact.ok_enc Fact.all_get Fact.all_set Fact.pred_get Fact.pred_set Fact.t_get Fact.t_set Literal.length_enc Literal.ok_enc Literal.all_get Literal.all_set Literal.neg_get Literal.neg_set Literal.atom_get Literal.atom_set Literal.atom_pred_get Literal.atom_pred_set Literal.atom_args_get Literal.atom_args_set Engine.length_enc Engine.ok_enc Engine.all_get Engine.all_set Engine.prog_get Engine.prog_set Engine.st_get Engine.st_set SrcCertm.length_enc SrcCertm.ok_enc SrcCertm.all_get SrcCertm.all_set SrcCertm.b_get SrcCertm.b_set SrcCertm.at__get SrcCertm.at__set GNode.length_enc GNode.ok_enc GNode.all_get GNode.all_set GNode.rule_get GNode.rule_set GNode.pred_get GNode.pred_set GNode.vals_get GNode.vals_set GNode.refs_get GNode.refs_set Term.length_enc Term.ok_enc Term.all_get Term.all_set Term.var_get Term.var_set Term.n_get Term.n_set Env.length_enc Env.ok_enc Env.all_get Env.all_set Env.val_get Env.val_set Env.set_get Env.set_set
attribute [local go_sem] size_put size_ext blk_put free_put blk_alloc free_alloc blk_drew free_drew blk_ext free_ext lookOr_some putOr_some segAt_some cellAt_some storeIn_some put_put put_alloc_new length_arr ok_arr_u8 ok_arr_u32 ok_arr_u64 ok_arr_i64 ok_arr_sl cellsV_agg cellsV_int cellsV_bool cellsV_string cellsV_pointer cellsV_slice cellsV_sl ok_int ok_bool ok_string ok_pointer ok_slice ok_sl toList_arr seg_arr set_arr nth_splice nth_splice0 seg_splice seg_splice0 splice_splice splice_splice0 length_splice_if
attribute [local go_sem ↓] execOp_box
attribute [local go_sem] box_run nth_arr_u8 put_arr_u8 blk_drewN free_drewN put_drewN blk_raw free_raw
theorem info3 : ∃ i z, Tryz.prog.info? 3 = some i ∧ i.zero = some z ∧ i.size = 1 ∧ i.bytes = 8 ∧ z.cells.size = 1 := by
  have hq : (Tryz.prog.info? 3).map (fun i => (i.zero.map (fun z => z.cells.size), i.size, i.bytes)) = some (some 1, 1, 8) := by kernel_rfl
  cases hx : Tryz.prog.info? 3 with
  | none => rw [hx] at hq; simp at hq
  | some i =>
    rw [hx] at hq
    simp only [Option.map_some, Option.some.injEq, Prod.mk.injEq] at hq
    obtain ⟨z, hz, hzs⟩ := Option.map_eq_some_iff.1 hq.1
    exact ⟨i, z, rfl, hz, hq.2.1, hq.2.2, hzs⟩
theorem info148 : ∃ i z, Tryz.prog.info? 257 = some i ∧ i.zero = some z ∧ i.size = 1 ∧ i.bytes = 24 ∧ z.cells.size = 1 := by
  have hq : (Tryz.prog.info? 257).map (fun i => (i.zero.map (fun z => z.cells.size), i.size, i.bytes)) = some (some 1, 1, 24) := by kernel_rfl
  cases hx : Tryz.prog.info? 257 with
  | none => rw [hx] at hq; simp at hq
  | some i =>
    rw [hx] at hq
    simp only [Option.map_some, Option.some.injEq, Prod.mk.injEq] at hq
    obtain ⟨z, hz, hzs⟩ := Option.map_eq_some_iff.1 hq.1
    exact ⟨i, z, rfl, hz, hq.2.1, hq.2.2, hzs⟩
theorem encZ_one (v : Int) : (encZ v).all (fun v => v.oneCell') = true := rfl
theorem encD1_one (d : Sl) : (encD1 d).all (fun v => v.oneCell') = true := rfl
theorem bslice183 (w : World) (v : Int) : (bsliceOp 180 1 #[(0, .int .i64 v)]).run Tryz.prog w = .ok (.value (.slice (some ⟨w.heap.size, 0, none⟩) 1 1)) (w.alloc (.cells (encZ v).toArray 3)) := by kernel_rfl
theorem bslice184 (w : World) (a : Option Addr) (n c : Nat) : (bsliceOp 265 1 #[(0, .slice a n c)]).run Tryz.prog w = .ok (.value (.slice (some ⟨w.heap.size, 0, none⟩) 1 1)) (w.alloc (.cells (encD1 ⟨a, n, c⟩).toArray 257)) := by kernel_rfl
def internF (N : List (List UInt8)) (nm : List UInt8) : Int × Int × List (List UInt8) := if lookF N nm ≠ -1 then (lookF N nm, 0, N) else if N.length = 256 then (-1, 16, N) else ((N.length : Int), 0, N ++ [nm])
def StoOut (B : Nat) (O : Own) (W : World) (g bst : Nat) (N : List (List UInt8)) (A : List Int) (R : List (List Tup)) (V : World) : Prop := ∃ O', Fr (isS g) O W O' V ∧ Sto B O' V g bst N A R
theorem lab_j {g i j : Nat} (h : i ≠ j) : ¬ (Lab.a g i = .a g j) := fun e => h (Lab.a.inj e).2
attribute [local go_sem] st_len st0 st1 st2 sts0 sts1 sts2 bslice50 bslice183 bslice184
attribute [local go_sem ↓] execOp_bslice execOp_build
set_option maxRecDepth 20000 in
set_option maxHeartbeats 1000000 in
theorem intern_any {B : Nat} {O : Own} {W : World} {g bst : Nat} {N : List (List UInt8)} {A : List Int} {R : List (List Tup)} (h : Sto B O W g bst N A R) (hB : B ≤ W.heap.size) (hN : N.length ≤ 256) (nm : List UInt8) : Calls Tryz.prog 147 #[.pointer (some ⟨bst, 0, none⟩), .string ⟨nm.toArray⟩] W fun e V => e = .returned (.tuple #[.int .i64 (internF N nm).1, .int .i64 (internF N nm).2.1]) ∧ StoOut B O W g bst (internF N nm).2.2 A R V := by
  obtain ⟨Q, hQ⟩ : ∃ Q, Q = (fun e V => e = .returned (.tuple #[.int .i64 (internF N nm).1, .int .i64 (internF N nm).2.1]) ∧ StoOut B O W g bst (internF N nm).2.2 A R V : Ending → World → Prop) := ⟨_, rfl⟩
  rw [← hQ]
  have HQ := hid_of hQ
  have hlk := lookup_any h (by omega) nm
  have HLK := hid_of hlk
  have HS := hid_of h
  obtain ⟨na, nn, nc, aa, an, ac, ra, rn, rc, Ds, hs⟩ := h
  have hc := hs.cell
  have hf := hs.fre
  have hnm := (hs.nm.rw encS_len).1
  have hnn : N.length = nn := hnm.1
  subst hnn
  obtain ⟨a', c', W', hrun, hrow, hfr⟩ := appL encS 1 16 43 9 Tryz.underlying43 info9 encS_len encS_one (by omega) (by omega) 43 nm hs.nm hB (by omega) (encS nm).toArray rfl 1
  have hO1 : O bst ≠ .a (2 * g + 2) 1 := by rw [hs.own]; exact lab_j (by omega)
  have hc' : blk W' bst = some (stE na N.length nc aa an ac ra rn rc) := hfr.blk hc hO1
  have hf' : free W' bst = true := hfr.free hc hf hO1
  have hlt := blk_lt hc
  have HAP : Hid (StoOut B O W g bst (N ++ [nm]) A R (put W' bst (stE a' (N.length + 1) c' aa an ac ra rn rc))) := by
    have hfr1 : Fr (isS g) O W (lab O W.heap.size (.a (2 * g + 2) 1)) W' := hfr.mono (fun l e => ⟨1, e⟩)
    have hob : lab O W.heap.size (.a (2 * g + 2) 1) bst = .a (2 * g + 2) 0 := by rw [lab_lt hlt]; exact hs.own
    have hput : Fr (fun l => l = .a (2 * g + 2) 0) (lab O W.heap.size (.a (2 * g + 2) 1)) W' (lab O W.heap.size (.a (2 * g + 2) 1)) (put W' bst (stE a' (N.length + 1) c' aa an ac ra rn rc)) := Fr.put (L := fun l => l = .a (2 * g + 2) 0) (Fr.refl _ _ _) hob _
    refine ⟨_, hfr1.put (by rw [hob]; exact ⟨0, rfl⟩) _, a', N.length + 1, c', aa, an, ac, ra, rn, rc, Ds, ?_, ?_, hob, hs.low, hrow.fr hput (lab_j (by omega)), (hs.ar.fr hfr (lab_j (by omega))).fr hput (lab_j (by omega)), (hs.rw.fr hfr (lab_j (by omega))).fr hput (lab_j (by omega)), hs.dl, fun i d L hd hL => ?_⟩
    · rw [blk_put, if_pos rfl, hc']; rfl
    · rw [free_put]; exact hf'
    · exact ((hs.dr i d L hd hL).sub (Sub.ext (core_fr hfr (fun e => by cases e)))).sub (Sub.ext (core_fr hput (fun e => by cases e)))
  have nbs : ¬ bst = W.heap.size := Nat.ne_of_lt hlt
  obtain ⟨lv, hlv⟩ : ∃ lv, lv = lookF N nm := ⟨_, rfl⟩
  rw [← hlv] at HLK
  have HLV := hid_of hlv
  clear hQ hs hnm hfr hrow hlk hlv
  go_enter Tryz.func147, Tryz.ntmps147
  go_wp2_with fail
  refine HLK.out.mono ?_
  rintro e V ⟨rfl, e9⟩
  replace e9 := e9.symm
  subst e9
  dsimp only
  by_cases hl : lv = -1
  · have hl' : lookF N nm = -1 := by rw [← HLV.out]; exact hl
    subst hl
    by_cases h256 : N.length = 256
    · have HP : Hid (Q (.returned (.tuple #[.int .i64 (-1), .int .i64 16])) W) := by
        show Q _ _
        rw [HQ.out]
        unfold internF
        rw [if_neg (fun h => h hl'), if_pos h256]
        exact ⟨rfl, O, Fr.refl _ _ _, HS.out⟩
      rw [h256] at hc
      clear hrun HAP
      go_wp2_with fail
      try go_ret
      exact HP.out
    · have h256' : ¬ (N.length : Int) = 256 := by omega
      have HP : Hid (Q (.returned (.tuple #[.int .i64 (N.length : Int), .int .i64 0])) (put W' bst (stE a' (N.length + 1) c' aa an ac ra rn rc))) := by
        show Q _ _
        rw [HQ.out]
        unfold internF
        rw [if_neg (fun h => h hl'), if_neg h256]
        exact ⟨rfl, HAP.out⟩
      have hwr : IntKind.i64.wrap (((N.length + 1 : Nat) : Int) - 1) = (N.length : Int) := by rw [IntKind.wrap_i64]; omega
      clear HAP HLK HLV
      go_wp2_with (at_builtin; refine wpList_append_run rfl _ _ 43 rfl _ _ _ _ rfl rfl hrun ?_)
      try go_ret
      first | exact HP.out | (simp only [hwr]; exact HP.out)
  · have hl' : lookF N nm ≠ -1 := by rw [← HLV.out]; exact hl
    have HP : Hid (Q (.returned (.tuple #[.int .i64 lv, .int .i64 0])) W) := by
      show Q _ _
      rw [HQ.out]
      unfold internF
      rw [if_pos hl', HLV.out]
      exact ⟨rfl, O, Fr.refl _ _ _, HS.out⟩
    have hle : (lv == -1) = false := by simp [hl]
    clear hrun HAP
    go_wp2_with fail
    refine HLK.out.mono ?_
    rintro e V ⟨rfl, e9⟩
    replace e9 := e9.symm
    subst e9
    dsimp only
    go_wp2_with fail
    try go_ret
    exact HP.out
set_option maxRecDepth 20000 in
set_option maxHeartbeats 1000000 in
theorem define_any {B : Nat} {O : Own} {W : World} {g bst : Nat} {N : List (List UInt8)} {A : List Int} {R : List (List Tup)} (h : Sto B O W g bst N A R) (hB : B ≤ W.heap.size) (hA : A.length ≤ 1000) (hR : R.length ≤ 1000) (v : Int) : Calls Tryz.prog 148 #[.pointer (some ⟨bst, 0, none⟩), .int .i64 v] W fun e V => e = .returned (.int .i64 (R.length : Int)) ∧ StoOut B O W g bst N (A ++ [v]) (R ++ [[]]) V := by
  obtain ⟨Q, hQ⟩ : ∃ Q, Q = (fun e V => e = .returned (.int .i64 (R.length : Int)) ∧ StoOut B O W g bst N (A ++ [v]) (R ++ [[]]) V : Ending → World → Prop) := ⟨_, rfl⟩
  rw [← hQ]
  have HQ := hid_of hQ
  obtain ⟨na, nn, nc, aa, an, ac, ra, rn, rc, Ds, hs⟩ := h
  have hc := hs.cell
  have hf := hs.fre
  have han : A.length = an := (hs.ar.rw encZ_len).1.1
  have hrn : Ds.length = rn := (hs.rw.rw encD1_len).1.1
  have hdl := hs.dl
  subst han hrn
  have hlt := blk_lt hc
  obtain ⟨a', c', W', hrun, hrow, hfr⟩ := appL encZ 1 8 180 3 Tryz.underlying180 info3 encZ_len encZ_one (by omega) (by omega) 180 v hs.ar hB (by omega) (encZ v).toArray rfl 1
  have hO1 : O bst ≠ .a (2 * g + 2) 2 := by rw [hs.own]; exact lab_j (by omega)
  have hc1 : blk W' bst = some (stE na nn nc aa A.length ac ra Ds.length rc) := hfr.blk hc hO1
  have hf1 : free W' bst = true := hfr.free hc hf hO1
  obtain ⟨O1, hO1d⟩ : ∃ O1, O1 = lab O W.heap.size (.a (2 * g + 2) 2) := ⟨_, rfl⟩
  rw [← hO1d] at hrow hfr
  have hob : O1 bst = .a (2 * g + 2) 0 := by rw [hO1d, lab_lt hlt]; exact hs.own
  obtain ⟨V1, hV1⟩ : ∃ V1, V1 = put W' bst (stE na nn nc a' (A.length + 1) c' ra Ds.length rc) := ⟨_, rfl⟩
  have hput : Fr (fun l => l = .a (2 * g + 2) 0) O1 W' O1 V1 := by rw [hV1]; exact Fr.put (L := fun l => l = .a (2 * g + 2) 0) (Fr.refl _ _ _) hob _
  have hc2 : blk V1 bst = some (stE na nn nc a' (A.length + 1) c' ra Ds.length rc) := by rw [hV1, blk_put, if_pos rfl, hc1]; rfl
  have hf2 : free V1 bst = true := by rw [hV1, free_put]; exact hf1
  have nm2 := (hs.nm.fr hfr (lab_j (by omega))).fr hput (lab_j (by omega))
  have ar2 := hrow.fr hput (lab_j (by omega))
  have rw2 := (hs.rw.fr hfr (lab_j (by omega))).fr hput (lab_j (by omega))
  have hB1 : B ≤ V1.heap.size := by
    have h1 := hfr.size
    have h2 := hput.size
    omega
  obtain ⟨a2, c2, W2, hrun2, hrow2, hfr2⟩ := appL encD1 1 24 265 257 Tryz.underlying265 info148 encD1_len encD1_one (by omega) (by omega) 184 ⟨none, 0, 0⟩ rw2 hB1 (by omega) (encD1 ⟨none, 0, 0⟩).toArray rfl 1
  have hO3 : O1 bst ≠ .a (2 * g + 2) 3 := by rw [hob]; exact lab_j (by omega)
  have hc3 : blk W2 bst = some (stE na nn nc a' (A.length + 1) c' ra Ds.length rc) := hfr2.blk hc2 hO3
  have hf3 : free W2 bst = true := hfr2.free hc2 hf2 hO3
  have HF : Hid (StoOut B O W g bst N (A ++ [v]) (R ++ [[]]) (put W2 bst (stE na nn nc a' (A.length + 1) c' a2 (Ds.length + 1) c2))) := by
    obtain ⟨O2, hO2d⟩ : ∃ O2, O2 = lab O1 V1.heap.size (.a (2 * g + 2) 3) := ⟨_, rfl⟩
    rw [← hO2d] at hrow2 hfr2
    have hob2 : O2 bst = .a (2 * g + 2) 0 := by rw [hO2d, lab_lt (blk_lt hc2)]; exact hob
    have hput2 : Fr (fun l => l = .a (2 * g + 2) 0) O2 W2 O2 (put W2 bst (stE na nn nc a' (A.length + 1) c' a2 (Ds.length + 1) c2)) := Fr.put (L := fun l => l = .a (2 * g + 2) 0) (Fr.refl _ _ _) hob2 _
    have hcc := (((Sub.ext (core_fr hfr (fun e => by cases e))).trans (Sub.ext (core_fr hput (fun e => by cases e)))).trans (Sub.ext (core_fr hfr2 (fun e => by cases e)))).trans (Sub.ext (core_fr hput2 (fun e => by cases e)))
    refine ⟨O2, (((hfr.mono (fun l e => ⟨2, e⟩)).trans (hput.mono (fun l e => ⟨0, e⟩))).trans (hfr2.mono (fun l e => ⟨3, e⟩))).trans (hput2.mono (fun l e => ⟨0, e⟩)), na, nn, nc, a', A.length + 1, c', a2, Ds.length + 1, c2, Ds ++ [⟨none, 0, 0⟩], ?_, ?_, hob2, hs.low, (nm2.fr hfr2 (lab_j (by omega))).fr hput2 (lab_j (by omega)), (ar2.fr hfr2 (lab_j (by omega))).fr hput2 (lab_j (by omega)), hrow2.fr hput2 (lab_j (by omega)), by simp [hdl], fun i d L hd hL => ?_⟩
    · rw [blk_put, if_pos rfl, hc3]; rfl
    · rw [free_put]; exact hf3
    · by_cases hi : i < Ds.length
      · rw [List.getElem?_append_left hi] at hd
        rw [List.getElem?_append_left (by omega)] at hL
        exact (hs.dr i d L hd hL).sub hcc
      · have hl2 := (List.getElem?_eq_some_iff.1 hd).1
        rw [List.length_append, List.length_singleton] at hl2
        obtain rfl : i = Ds.length := by omega
        rw [List.getElem?_append_right (Nat.le_refl _), Nat.sub_self] at hd
        rw [hdl, List.getElem?_append_right (Nat.le_refl _), Nat.sub_self] at hL
        have e1 : (⟨none, 0, 0⟩ : Sl) = d := Option.some.inj hd
        have e2 : ([] : List Tup) = L := Option.some.inj hL
        subst e1 e2
        exact ⟨rfl, fun j y hy => by cases hy⟩
  have HP : Hid (Q (.returned (.int .i64 (Ds.length : Int))) (put W2 bst (stE na nn nc a' (A.length + 1) c' a2 (Ds.length + 1) c2))) := by
    show Q _ _
    rw [HQ.out, ← hdl]; exact ⟨rfl, HF.out⟩
  have HV1 := hid_of hV1
  have hDs : Ds.length ≤ 1000 := by omega
  have nbs : ¬ bst = W.heap.size := Nat.ne_of_lt hlt
  have nbs1 : ¬ bst = V1.heap.size := Nat.ne_of_lt (blk_lt hc2)
  clear hQ hs hfr hrow hput nm2 ar2 rw2 hrow2 hfr2 HF hO1 hO3 hob hO1d hV1 hdl
  go_enter Tryz.func148, Tryz.ntmps148
  go_upto_region 2 with (at_builtin; refine wpList_append_run rfl _ _ 180 rfl _ _ _ _ rfl rfl hrun ?_)
  refine wp_world (fun V => V = V1) (by rw [HV1.out]) ?_
  intro V eV
  subst eV
  clear hrun hc hf hc1 hf1 HV1
  go_wp2_with (at_builtin; refine wpList_append_run rfl _ _ 265 rfl _ _ _ _ rfl rfl hrun2 ?_)
  try go_ret
  first | exact HP.out | (have hwr : IntKind.i64.wrap (((Ds.length + 1 : Nat) : Int) - 1) = (Ds.length : Int) := by (rw [IntKind.wrap_i64]; omega); simp only [hwr]; exact HP.out)
end Go.Proofs.Qxb6500787aGreat
