import Derived.Test.Qxb6500787aTb
import Derived.StillTailTactics
import Derived.Deep.QuietTactic
import Derived.BigQuiet
import Derived.Deep.RegionHeld
import Derived.Deep.CutRange
import Derived.Laws.ResultCell
import Derived.Laws.Rows
import Derived.DeepKeys
import Derived.DataBytes
import Derived.Laws.StructEq
import Derived.Laws.AppendOwn
import Derived.Laws.MakeOwn
import Derived.Lib.AppendStr
set_option linter.unusedSimpArgs false
set_option linter.unusedVariables false
namespace Go.Proofs.Qxb6500787a
open Go.RowKit Go.Blk
attribute [local go_sem ↓] execOp_load execOp_store execOp_alloc
attribute [local go_sem] Try.ld26 Try.st26 Try.ld27 Try.st27 Try.ld28 Try.st28 Try.ld3 Try.st3 Try.ld29 Try.st29 Try.ld44 Try.st44 Try.ld4 Try.st4 Try.ld50 Try.st50 Try.ld32 Try.st32 Try.ld49 Try.st49 Try.ld68 Try.st68 Try.ld9 Try.st9 Try.ld40 Try.st40 Try.ld138 Try.st138 Try.ld139 Try.st139 Try.ld146 Try.st146 Try.ld183 Try.st183 Try.ld184 Try.st184 Try.ld192 Try.st192 Try.ld195 Try.st195 Try.ld217 Try.st217 Try.ld159 Try.st159 Try.ld142 Try.st142 Try.ld2 Try.st2 Try.ld5 Try.st5 Try.ld12 Try.st12 Try.ld21 Try.st21 Try.ld22 Try.st22 Try.ld24 Try.st24 Try.ld58 Try.st58 Try.ld63 Try.st63 Try.ld97 Try.st97 Try.ld101 Try.st101 Try.ld116 Try.st116 Try.ld121 Try.st121 Try.ld135 Try.st135 Try.ld136 Try.st136 Try.ld143 Try.st143 Try.ld148 Try.st148 Try.ld154 Try.st154 Try.ld173 Try.st173 Try.ld187 Try.st187 Try.ld222 Try.st222 Try.ld241 Try.st241 Try.ld248 Try.st248 Try.ld268 Try.st268 Try.ld272 Try.st272 Try.ld153 Try.st153 Try.ld255 Try.st255 Try.ld256 Try.st256 Try.ld129 Try.st129 Try.ld152 Try.st152 Try.ld31 Try.st31 Try.ld46 Try.st46 Try.ld52 Try.st52 Try.ld54 Try.st54 Try.ld60 Try.st60 Try.ld70 Try.st70 Try.ld74 Try.st74 Try.ld93 Try.st93 Try.ld119 Try.st119 Try.ld141 Try.st141 Try.ld151 Try.st151 Try.ld170 Try.st170 Try.ld186 Try.st186 Try.ld189 Try.st189 Try.ld194 Try.st194 Try.ld197 Try.st197 Try.ld219 Try.st219 Try.ld224 Try.st224 Try.ld230 Try.st230 Try.ld235 Try.st235 Try.ld243 Try.st243 Try.ld247 Try.st247 Try.ld252 Try.st252 Try.ld258 Try.st258 Try.al153 Try.al255 Try.al256 Try.al129 Try.al152 Try.al31 Try.al46 Try.al52 Try.al54 Try.al60 Try.al70 Try.al74 Try.al93 Try.al119 Try.al141 Try.al151 Try.al170 Try.al186 Try.al189 Try.al194 Try.al197 Try.al219 Try.al224 Try.al230 Try.al235 Try.al243 Try.al247 Try.al252 Try.al258
attribute [local go_sem] Request.length_enc Request.ok_enc Request.all_get Request.all_set Request.kind_get Request.kind_set Request.blob_get Request.blob_set Request.items_get Request.items_set Request.pred_get Request.pred_set Request.slots_get Request.slots_set Trace.length_enc Trace.ok_enc Trace.all_get Trace.all_set Trace.op_get Trace.op_set Trace.calls_get Trace.calls_set Item.length_enc Item.ok_enc Item.all_get Item.all_set Item.del_get Item.del_set Item.pred_get Item.pred_set Item.args_get Item.args_set Reply.length_enc Reply.ok_enc Reply.all_get Reply.all_set Reply.code_get Reply.code_set Reply.kind_get Reply.kind_set Reply.index_get Reply.index_set Reply.yes_get Reply.yes_set Reply.preds_get Reply.preds_set Reply.rules_get Reply.rules_set Reply.arity_get Reply.arity_set Reply.rows_get Reply.rows_set Reply.fact_get Reply.fact_set Reply.fact_del_get Reply.fact_del_set Reply.fact_pred_get Reply.fact_pred_set Reply.fact_args_get Reply.fact_args_set GEntry.length_enc GEntry.ok_enc GEntry.all_get GEntry.all_set GEntry.seq_get GEntry.seq_set GEntry.kind_get GEntry.kind_set GEntry.code_get GEntry.code_set GOp.length_enc GOp.ok_enc GOp.all_get GOp.all_set GOp.kind_get GOp.kind_set GOp.raw_get GOp.raw_set Reader.length_enc Reader.ok_enc Reader.all_get Reader.all_set Reader.buf_get Reader.buf_set Reader.at__get Reader.at__set Slot.length_enc Slot.ok_enc Slot.all_get Slot.all_set Slot.bound_get Slot.bound_set Slot.name_get Slot.name_set Session.length_enc Session.ok_enc Session.all_get Session.all_set Session.svc_get Session.svc_set Session.buf_get Session.buf_set Session.closed_get Session.closed_set GProgram.length_enc GProgram.ok_enc GProgram.all_get GProgram.all_set GProgram.pool_get GProgram.pool_set GProgram.preds_get GProgram.preds_set GProgram.rules_get GProgram.rules_set GProgram.strata_get GProgram.strata_set PredInfo.length_enc PredInfo.ok_enc PredInfo.all_get PredInfo.all_set PredInfo.arity_get PredInfo.arity_set PredInfo.base_get PredInfo.base_set PredInfo.stratum_get PredInfo.stratum_set Change.length_enc Change.ok_enc Change.all_get Change.all_set Change.del_get Change.del_set Change.pred_get Change.pred_set Change.t_get Change.t_set Store.length_enc Store.ok_enc Store.all_get Store.all_set Store.names_get Store.names_set Store.arity_get Store.arity_set Store.rows_get Store.rows_set Src.length_enc Src.ok_enc Src.all_get Src.all_set Src.b_get Src.b_set Src.at__get Src.at__set Atom.length_enc Atom.ok_enc Atom.all_get Atom.all_set Atom.pred_get Atom.pred_set Atom.args_get Atom.args_set GRule.length_enc GRule.ok_enc GRule.all_get GRule.all_set GRule.head_get GRule.head_set GRule.body_get GRule.body_set GRule.head_pred_get GRule.head_pred_set GRule.head_args_get GRule.head_args_set Cert.length_enc Cert.ok_enc Cert.all_get Cert.all_set Cert.names_get Cert.names_set Cert.nodes_get Cert.nodes_set Fact.length_enc Fact.ok_enc Fact.all_get Fact.all_set Fact.pred_get Fact.pred_set Fact.t_get Fact.t_set Literal.length_enc Literal.ok_enc Literal.all_get Literal.all_set Literal.neg_get Literal.neg_set Literal.atom_get Literal.atom_set Literal.atom_pred_get Literal.atom_pred_set Literal.atom_args_get Literal.atom_args_set Engine.length_enc Engine.ok_enc Engine.all_get Engine.all_set Engine.prog_get Engine.prog_set Engine.st_get Engine.st_set SrcCertm.length_enc SrcCertm.ok_enc SrcCertm.all_get SrcCertm.all_set SrcCertm.b_get SrcCertm.b_set SrcCertm.at__get SrcCertm.at__set GNode.length_enc GNode.ok_enc GNode.all_get GNode.all_set GNode.rule_get GNode.rule_set GNode.pred_get GNode.pred_set GNode.vals_get GNode.vals_set GNode.refs_get GNode.refs_set Term.length_enc Term.ok_enc Term.all_get Term.all_set Term.var_get Term.var_set Term.n_get Term.n_set Env.length_enc Env.ok_enc Env.all_get Env.all_set Env.val_get Env.val_set Env.set_get Env.set_set
attribute [local go_sem] size_put size_ext blk_put free_put blk_alloc free_alloc blk_drew free_drew blk_ext free_ext lookOr_some putOr_some segAt_some cellAt_some storeIn_some put_put put_alloc_new length_arr ok_arr_u8 ok_arr_u32 ok_arr_u64 ok_arr_i64 ok_arr_sl cellsV_agg cellsV_int cellsV_bool cellsV_string cellsV_pointer cellsV_slice cellsV_sl ok_int ok_bool ok_string ok_pointer ok_slice ok_sl toList_arr seg_arr set_arr nth_splice nth_splice0 seg_splice seg_splice0 splice_splice splice_splice0 length_splice_if
attribute [local go_sem ↓] execOp_box
attribute [local go_sem] box_run nth_arr_u8 put_arr_u8 blk_drewN free_drewN put_drewN blk_raw free_raw
theorem info3 : ∃ i z, Try.prog.info? 3 = some i ∧ i.zero = some z ∧ i.size = 1 ∧ i.bytes = 8 ∧ z.cells.size = 1 := by
  have hq : (Try.prog.info? 3).map (fun i => (i.zero.map (fun z => z.cells.size), i.size, i.bytes)) = some (some 1, 1, 8) := by kernel_rfl
  cases hx : Try.prog.info? 3 with
  | none => rw [hx] at hq; simp at hq
  | some i =>
    rw [hx] at hq
    simp only [Option.map_some, Option.some.injEq, Prod.mk.injEq] at hq
    obtain ⟨z, hz, hzs⟩ := Option.map_eq_some_iff.1 hq.1
    exact ⟨i, z, rfl, hz, hq.2.1, hq.2.2, hzs⟩
theorem info148 : ∃ i z, Try.prog.info? 148 = some i ∧ i.zero = some z ∧ i.size = 1 ∧ i.bytes = 24 ∧ z.cells.size = 1 := by
  have hq : (Try.prog.info? 148).map (fun i => (i.zero.map (fun z => z.cells.size), i.size, i.bytes)) = some (some 1, 1, 24) := by kernel_rfl
  cases hx : Try.prog.info? 148 with
  | none => rw [hx] at hq; simp at hq
  | some i =>
    rw [hx] at hq
    simp only [Option.map_some, Option.some.injEq, Prod.mk.injEq] at hq
    obtain ⟨z, hz, hzs⟩ := Option.map_eq_some_iff.1 hq.1
    exact ⟨i, z, rfl, hz, hq.2.1, hq.2.2, hzs⟩
theorem encZ_one (v : Int) : (encZ v).all (fun v => v.oneCell') = true := rfl
theorem encD1_one (d : Sl) : (encD1 d).all (fun v => v.oneCell') = true := rfl
theorem bslice183 (w : World) (v : Int) : (bsliceOp 183 1 #[(0, .int .i64 v)]).run Try.prog w = .ok (.value (.slice (some ⟨w.heap.size, 0, none⟩) 1 1)) (w.alloc (.cells (encZ v).toArray 3)) := by kernel_rfl
theorem bslice184 (w : World) (a : Option Addr) (n c : Nat) : (bsliceOp 184 1 #[(0, .slice a n c)]).run Try.prog w = .ok (.value (.slice (some ⟨w.heap.size, 0, none⟩) 1 1)) (w.alloc (.cells (encD1 ⟨a, n, c⟩).toArray 148)) := by kernel_rfl
def internF (N : List (List UInt8)) (nm : List UInt8) : Int × Int × List (List UInt8) := if lookF N nm ≠ -1 then (lookF N nm, 0, N) else if N.length = 256 then (-1, 16, N) else ((N.length : Int), 0, N ++ [nm])
def StoOut (B : Nat) (O : Own) (W : World) (g bst : Nat) (N : List (List UInt8)) (A : List Int) (R : List (List Tup)) (V : World) : Prop := ∃ O', Fr (isS g) O W O' V ∧ Sto B O' V g bst N A R
theorem lab_j {g i j : Nat} (h : i ≠ j) : ¬ (Lab.a g i = .a g j) := fun e => h (Lab.a.inj e).2
attribute [local go_sem] st_len st0 st1 st2 sts0 sts1 sts2 bslice50 bslice183 bslice184
attribute [local go_sem ↓] execOp_bslice execOp_build
set_option maxRecDepth 20000 in
set_option maxHeartbeats 1000000 in
theorem intern_any {B : Nat} {O : Own} {W : World} {g bst : Nat} {N : List (List UInt8)} {A : List Int} {R : List (List Tup)} (h : Sto B O W g bst N A R) (hB : B ≤ W.heap.size) (hN : N.length ≤ 256) (nm : List UInt8) : Calls Try.prog 112 #[.pointer (some ⟨bst, 0, none⟩), .string ⟨nm.toArray⟩] W fun e V => e = .returned (.tuple #[.int .i64 (internF N nm).1, .int .i64 (internF N nm).2.1]) ∧ StoOut B O W g bst (internF N nm).2.2 A R V := by
  obtain ⟨Q, hQ⟩ : ∃ Q, Q = (fun e V => e = .returned (.tuple #[.int .i64 (internF N nm).1, .int .i64 (internF N nm).2.1]) ∧ StoOut B O W g bst (internF N nm).2.2 A R V : Ending → World → Prop) := ⟨_, rfl⟩
  rw [← hQ]
  have HQ := hid_of hQ
  have hlk := lookup_any h (by omega) nm
  have HLK := hid_of hlk
  have HS := hid_of h
  obtain ⟨na, nn, nc, aa, an, ac, ra, rn, rc, Ds, hs⟩ := h
  have hc := hs.cell
  have hf := hs.fre
  have hnm := (hs.nm.rw encS_len).1
  have hnn : N.length = nn := hnm.1
  subst hnn
  obtain ⟨a', c', W', hrun, hrow, hfr⟩ := appL encS 1 16 50 9 Try.underlying50 info9 encS_len encS_one (by omega) (by omega) 50 nm hs.nm hB (by omega) (encS nm).toArray rfl 1
  have hO1 : O bst ≠ .a (2 * g + 2) 1 := by rw [hs.own]; exact lab_j (by omega)
  have hc' : blk W' bst = some (stE na N.length nc aa an ac ra rn rc) := hfr.blk hc hO1
  have hf' : free W' bst = true := hfr.free hc hf hO1
  have hlt := blk_lt hc
  have HAP : Hid (StoOut B O W g bst (N ++ [nm]) A R (put W' bst (stE a' (N.length + 1) c' aa an ac ra rn rc))) := by
    have hfr1 : Fr (isS g) O W (lab O W.heap.size (.a (2 * g + 2) 1)) W' := hfr.mono (fun l e => ⟨1, e⟩)
    have hob : lab O W.heap.size (.a (2 * g + 2) 1) bst = .a (2 * g + 2) 0 := by rw [lab_lt hlt]; exact hs.own
    have hput : Fr (fun l => l = .a (2 * g + 2) 0) (lab O W.heap.size (.a (2 * g + 2) 1)) W' (lab O W.heap.size (.a (2 * g + 2) 1)) (put W' bst (stE a' (N.length + 1) c' aa an ac ra rn rc)) := Fr.put (L := fun l => l = .a (2 * g + 2) 0) (Fr.refl _ _ _) hob _
    refine ⟨_, hfr1.put (by rw [hob]; exact ⟨0, rfl⟩) _, a', N.length + 1, c', aa, an, ac, ra, rn, rc, Ds, ?_, ?_, hob, hs.low, hrow.fr hput (lab_j (by omega)), (hs.ar.fr hfr (lab_j (by omega))).fr hput (lab_j (by omega)), (hs.rw.fr hfr (lab_j (by omega))).fr hput (lab_j (by omega)), hs.dl, fun i d L hd hL => ?_⟩
    · rw [blk_put, if_pos rfl, hc']; rfl
    · rw [free_put]; exact hf'
    · exact ((hs.dr i d L hd hL).sub (Sub.ext (core_fr hfr (fun e => by cases e)))).sub (Sub.ext (core_fr hput (fun e => by cases e)))
  have nbs : ¬ bst = W.heap.size := Nat.ne_of_lt hlt
  obtain ⟨lv, hlv⟩ : ∃ lv, lv = lookF N nm := ⟨_, rfl⟩
  rw [← hlv] at HLK
  have HLV := hid_of hlv
  clear hQ hs hnm hfr hrow hlk hlv
  go_enter Try.func112, Try.ntmps112
  go_wp2_with fail
  refine HLK.out.mono ?_
  rintro e V ⟨rfl, e9⟩
  replace e9 := e9.symm
  subst e9
  dsimp only
  by_cases hl : lv = -1
  · have hl' : lookF N nm = -1 := by rw [← HLV.out]; exact hl
    subst hl
    by_cases h256 : N.length = 256
    · have HP : Hid (Q (.returned (.tuple #[.int .i64 (-1), .int .i64 16])) W) := by
        show Q _ _
        rw [HQ.out]
        unfold internF
        rw [if_neg (fun h => h hl'), if_pos h256]
        exact ⟨rfl, O, Fr.refl _ _ _, HS.out⟩
      rw [h256] at hc
      clear hrun HAP
      go_wp2_with fail
      try go_ret
      exact HP.out
    · have h256' : ¬ (N.length : Int) = 256 := by omega
      have HP : Hid (Q (.returned (.tuple #[.int .i64 (N.length : Int), .int .i64 0])) (put W' bst (stE a' (N.length + 1) c' aa an ac ra rn rc))) := by
        show Q _ _
        rw [HQ.out]
        unfold internF
        rw [if_neg (fun h => h hl'), if_neg h256]
        exact ⟨rfl, HAP.out⟩
      have hwr : IntKind.i64.wrap (((N.length + 1 : Nat) : Int) - 1) = (N.length : Int) := by rw [IntKind.wrap_i64]; omega
      clear HAP HLK HLV
      go_wp2_with (at_builtin; refine wpList_append_run rfl _ _ 50 rfl _ _ _ _ rfl rfl hrun ?_)
      try go_ret
      first | exact HP.out | (simp only [hwr]; exact HP.out)
  · have hl' : lookF N nm ≠ -1 := by rw [← HLV.out]; exact hl
    have HP : Hid (Q (.returned (.tuple #[.int .i64 lv, .int .i64 0])) W) := by
      show Q _ _
      rw [HQ.out]
      unfold internF
      rw [if_pos hl', HLV.out]
      exact ⟨rfl, O, Fr.refl _ _ _, HS.out⟩
    have hle : (lv == -1) = false := by simp [hl]
    clear hrun HAP
    go_wp2_with fail
    refine HLK.out.mono ?_
    rintro e V ⟨rfl, e9⟩
    replace e9 := e9.symm
    subst e9
    dsimp only
    go_wp2_with fail
    try go_ret
    exact HP.out
set_option maxRecDepth 20000 in
set_option maxHeartbeats 1000000 in
theorem define_any {B : Nat} {O : Own} {W : World} {g bst : Nat} {N : List (List UInt8)} {A : List Int} {R : List (List Tup)} (h : Sto B O W g bst N A R) (hB : B ≤ W.heap.size) (hA : A.length ≤ 1000) (hR : R.length ≤ 1000) (v : Int) : Calls Try.prog 124 #[.pointer (some ⟨bst, 0, none⟩), .int .i64 v] W fun e V => e = .returned (.int .i64 (R.length : Int)) ∧ StoOut B O W g bst N (A ++ [v]) (R ++ [[]]) V := by
  obtain ⟨Q, hQ⟩ : ∃ Q, Q = (fun e V => e = .returned (.int .i64 (R.length : Int)) ∧ StoOut B O W g bst N (A ++ [v]) (R ++ [[]]) V : Ending → World → Prop) := ⟨_, rfl⟩
  rw [← hQ]
  have HQ := hid_of hQ
  obtain ⟨na, nn, nc, aa, an, ac, ra, rn, rc, Ds, hs⟩ := h
  have hc := hs.cell
  have hf := hs.fre
  have han : A.length = an := (hs.ar.rw encZ_len).1.1
  have hrn : Ds.length = rn := (hs.rw.rw encD1_len).1.1
  have hdl := hs.dl
  subst han hrn
  have hlt := blk_lt hc
  obtain ⟨a', c', W', hrun, hrow, hfr⟩ := appL encZ 1 8 183 3 Try.underlying183 info3 encZ_len encZ_one (by omega) (by omega) 183 v hs.ar hB (by omega) (encZ v).toArray rfl 1
  have hO1 : O bst ≠ .a (2 * g + 2) 2 := by rw [hs.own]; exact lab_j (by omega)
  have hc1 : blk W' bst = some (stE na nn nc aa A.length ac ra Ds.length rc) := hfr.blk hc hO1
  have hf1 : free W' bst = true := hfr.free hc hf hO1
  obtain ⟨O1, hO1d⟩ : ∃ O1, O1 = lab O W.heap.size (.a (2 * g + 2) 2) := ⟨_, rfl⟩
  rw [← hO1d] at hrow hfr
  have hob : O1 bst = .a (2 * g + 2) 0 := by rw [hO1d, lab_lt hlt]; exact hs.own
  obtain ⟨V1, hV1⟩ : ∃ V1, V1 = put W' bst (stE na nn nc a' (A.length + 1) c' ra Ds.length rc) := ⟨_, rfl⟩
  have hput : Fr (fun l => l = .a (2 * g + 2) 0) O1 W' O1 V1 := by rw [hV1]; exact Fr.put (L := fun l => l = .a (2 * g + 2) 0) (Fr.refl _ _ _) hob _
  have hc2 : blk V1 bst = some (stE na nn nc a' (A.length + 1) c' ra Ds.length rc) := by rw [hV1, blk_put, if_pos rfl, hc1]; rfl
  have hf2 : free V1 bst = true := by rw [hV1, free_put]; exact hf1
  have nm2 := (hs.nm.fr hfr (lab_j (by omega))).fr hput (lab_j (by omega))
  have ar2 := hrow.fr hput (lab_j (by omega))
  have rw2 := (hs.rw.fr hfr (lab_j (by omega))).fr hput (lab_j (by omega))
  have hB1 : B ≤ V1.heap.size := by
    have h1 := hfr.size
    have h2 := hput.size
    omega
  obtain ⟨a2, c2, W2, hrun2, hrow2, hfr2⟩ := appL encD1 1 24 184 148 Try.underlying184 info148 encD1_len encD1_one (by omega) (by omega) 184 ⟨none, 0, 0⟩ rw2 hB1 (by omega) (encD1 ⟨none, 0, 0⟩).toArray rfl 1
  have hO3 : O1 bst ≠ .a (2 * g + 2) 3 := by rw [hob]; exact lab_j (by omega)
  have hc3 : blk W2 bst = some (stE na nn nc a' (A.length + 1) c' ra Ds.length rc) := hfr2.blk hc2 hO3
  have hf3 : free W2 bst = true := hfr2.free hc2 hf2 hO3
  have HF : Hid (StoOut B O W g bst N (A ++ [v]) (R ++ [[]]) (put W2 bst (stE na nn nc a' (A.length + 1) c' a2 (Ds.length + 1) c2))) := by
    obtain ⟨O2, hO2d⟩ : ∃ O2, O2 = lab O1 V1.heap.size (.a (2 * g + 2) 3) := ⟨_, rfl⟩
    rw [← hO2d] at hrow2 hfr2
    have hob2 : O2 bst = .a (2 * g + 2) 0 := by rw [hO2d, lab_lt (blk_lt hc2)]; exact hob
    have hput2 : Fr (fun l => l = .a (2 * g + 2) 0) O2 W2 O2 (put W2 bst (stE na nn nc a' (A.length + 1) c' a2 (Ds.length + 1) c2)) := Fr.put (L := fun l => l = .a (2 * g + 2) 0) (Fr.refl _ _ _) hob2 _
    have hcc := (((Sub.ext (core_fr hfr (fun e => by cases e))).trans (Sub.ext (core_fr hput (fun e => by cases e)))).trans (Sub.ext (core_fr hfr2 (fun e => by cases e)))).trans (Sub.ext (core_fr hput2 (fun e => by cases e)))
    refine ⟨O2, (((hfr.mono (fun l e => ⟨2, e⟩)).trans (hput.mono (fun l e => ⟨0, e⟩))).trans (hfr2.mono (fun l e => ⟨3, e⟩))).trans (hput2.mono (fun l e => ⟨0, e⟩)), na, nn, nc, a', A.length + 1, c', a2, Ds.length + 1, c2, Ds ++ [⟨none, 0, 0⟩], ?_, ?_, hob2, hs.low, (nm2.fr hfr2 (lab_j (by omega))).fr hput2 (lab_j (by omega)), (ar2.fr hfr2 (lab_j (by omega))).fr hput2 (lab_j (by omega)), hrow2.fr hput2 (lab_j (by omega)), by simp [hdl], fun i d L hd hL => ?_⟩
    · rw [blk_put, if_pos rfl, hc3]; rfl
    · rw [free_put]; exact hf3
    · by_cases hi : i < Ds.length
      · rw [List.getElem?_append_left hi] at hd
        rw [List.getElem?_append_left (by omega)] at hL
        exact (hs.dr i d L hd hL).sub hcc
      · have hl2 := (List.getElem?_eq_some_iff.1 hd).1
        rw [List.length_append, List.length_singleton] at hl2
        obtain rfl : i = Ds.length := by omega
        rw [List.getElem?_append_right (Nat.le_refl _), Nat.sub_self] at hd
        rw [hdl, List.getElem?_append_right (Nat.le_refl _), Nat.sub_self] at hL
        have e1 : (⟨none, 0, 0⟩ : Sl) = d := Option.some.inj hd
        have e2 : ([] : List Tup) = L := Option.some.inj hL
        subst e1 e2
        exact ⟨rfl, fun j y hy => by cases hy⟩
  have HP : Hid (Q (.returned (.int .i64 (Ds.length : Int))) (put W2 bst (stE na nn nc a' (A.length + 1) c' a2 (Ds.length + 1) c2))) := by
    show Q _ _
    rw [HQ.out, ← hdl]; exact ⟨rfl, HF.out⟩
  have HV1 := hid_of hV1
  have hDs : Ds.length ≤ 1000 := by omega
  have nbs : ¬ bst = W.heap.size := Nat.ne_of_lt hlt
  have nbs1 : ¬ bst = V1.heap.size := Nat.ne_of_lt (blk_lt hc2)
  clear hQ hs hfr hrow hput nm2 ar2 rw2 hrow2 hfr2 HF hO1 hO3 hob hO1d hV1 hdl
  go_enter Try.func124, Try.ntmps124
  go_upto_region 2 with (at_builtin; refine wpList_append_run rfl _ _ 183 rfl _ _ _ _ rfl rfl hrun ?_)
  refine wp_world (fun V => V = V1) (by rw [HV1.out]) ?_
  intro V eV
  subst eV
  clear hrun hc hf hc1 hf1 HV1
  go_wp2_with (at_builtin; refine wpList_append_run rfl _ _ 184 rfl _ _ _ _ rfl rfl hrun2 ?_)
  try go_ret
  first | exact HP.out | (have hwr : IntKind.i64.wrap (((Ds.length + 1 : Nat) : Int) - 1) = (Ds.length : Int) := by (rw [IntKind.wrap_i64]; omega); simp only [hwr]; exact HP.out)
end Go.Proofs.Qxb6500787a
