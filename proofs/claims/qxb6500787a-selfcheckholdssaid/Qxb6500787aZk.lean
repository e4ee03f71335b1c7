import Derived.Test.Qxb6500787aZj
import Derived.StillTailTactics
import Derived.Deep.QuietTactic
import Derived.BigQuiet
import Derived.Deep.RegionHeld
import Derived.Deep.CutRange
import Derived.Laws.ResultCell
import Derived.Laws.Rows
import Derived.DeepKeys
import Derived.DataBytes
import Derived.Laws.StructEq
import Derived.Laws.AppendOwn
import Derived.Laws.MakeOwn
import Derived.Lib.AppendStr
set_option linter.unusedSimpArgs false
set_option linter.unusedVariables false
namespace Go.Proofs.Qxb6500787a
open Go.RowKit Go.Blk
attribute [local go_sem ↓] execOp_load execOp_store execOp_alloc
attribute [local go_sem] Try.ld26 Try.st26 Try.ld27 Try.st27 Try.ld28 Try.st28 Try.ld3 Try.st3 Try.ld29 Try.st29 Try.ld44 Try.st44 Try.ld4 Try.st4 Try.ld50 Try.st50 Try.ld32 Try.st32 Try.ld49 Try.st49 Try.ld68 Try.st68 Try.ld9 Try.st9 Try.ld40 Try.st40 Try.ld138 Try.st138 Try.ld139 Try.st139 Try.ld146 Try.st146 Try.ld183 Try.st183 Try.ld184 Try.st184 Try.ld192 Try.st192 Try.ld195 Try.st195 Try.ld217 Try.st217 Try.ld159 Try.st159 Try.ld142 Try.st142 Try.ld2 Try.st2 Try.ld5 Try.st5 Try.ld12 Try.st12 Try.ld21 Try.st21 Try.ld22 Try.st22 Try.ld24 Try.st24 Try.ld58 Try.st58 Try.ld63 Try.st63 Try.ld97 Try.st97 Try.ld101 Try.st101 Try.ld116 Try.st116 Try.ld121 Try.st121 Try.ld135 Try.st135 Try.ld136 Try.st136 Try.ld143 Try.st143 Try.ld148 Try.st148 Try.ld154 Try.st154 Try.ld173 Try.st173 Try.ld187 Try.st187 Try.ld222 Try.st222 Try.ld241 Try.st241 Try.ld248 Try.st248 Try.ld268 Try.st268 Try.ld272 Try.st272 Try.ld153 Try.st153 Try.ld255 Try.st255 Try.ld256 Try.st256 Try.ld129 Try.st129 Try.ld152 Try.st152 Try.ld31 Try.st31 Try.ld46 Try.st46 Try.ld52 Try.st52 Try.ld54 Try.st54 Try.ld60 Try.st60 Try.ld70 Try.st70 Try.ld74 Try.st74 Try.ld93 Try.st93 Try.ld119 Try.st119 Try.ld141 Try.st141 Try.ld151 Try.st151 Try.ld170 Try.st170 Try.ld186 Try.st186 Try.ld189 Try.st189 Try.ld194 Try.st194 Try.ld197 Try.st197 Try.ld219 Try.st219 Try.ld224 Try.st224 Try.ld230 Try.st230 Try.ld235 Try.st235 Try.ld243 Try.st243 Try.ld247 Try.st247 Try.ld252 Try.st252 Try.ld258 Try.st258 Try.al153 Try.al255 Try.al256 Try.al129 Try.al152 Try.al31 Try.al46 Try.al52 Try.al54 Try.al60 Try.al70 Try.al74 Try.al93 Try.al119 Try.al141 Try.al151 Try.al170 Try.al186 Try.al189 Try.al194 Try.al197 Try.al219 Try.al224 Try.al230 Try.al235 Try.al243 Try.al247 Try.al252 Try.al258
attribute [local go_sem] Request.length_enc Request.ok_enc Request.all_get Request.all_set Request.kind_get Request.kind_set Request.blob_get Request.blob_set Request.items_get Request.items_set Request.pred_get Request.pred_set Request.slots_get Request.slots_set Trace.length_enc Trace.ok_enc Trace.all_get Trace.all_set Trace.op_get Trace.op_set Trace.calls_get Trace.calls_set Item.length_enc Item.ok_enc Item.all_get Item.all_set Item.del_get Item.del_set Item.pred_get Item.pred_set Item.args_get Item.args_set Reply.length_enc Reply.ok_enc Reply.all_get Reply.all_set Reply.code_get Reply.code_set Reply.kind_get Reply.kind_set Reply.index_get Reply.index_set Reply.yes_get Reply.yes_set Reply.preds_get Reply.preds_set Reply.rules_get Reply.rules_set Reply.arity_get Reply.arity_set Reply.rows_get Reply.rows_set Reply.fact_get Reply.fact_set Reply.fact_del_get Reply.fact_del_set Reply.fact_pred_get Reply.fact_pred_set Reply.fact_args_get Reply.fact_args_set GEntry.length_enc GEntry.ok_enc GEntry.all_get GEntry.all_set GEntry.seq_get GEntry.seq_set GEntry.kind_get GEntry.kind_set GEntry.code_get GEntry.code_set GOp.length_enc GOp.ok_enc GOp.all_get GOp.all_set GOp.kind_get GOp.kind_set GOp.raw_get GOp.raw_set Reader.length_enc Reader.ok_enc Reader.all_get Reader.all_set Reader.buf_get Reader.buf_set Reader.at__get Reader.at__set Slot.length_enc Slot.ok_enc Slot.all_get Slot.all_set Slot.bound_get Slot.bound_set Slot.name_get Slot.name_set Session.length_enc Session.ok_enc Session.all_get Session.all_set Session.svc_get Session.svc_set Session.buf_get Session.buf_set Session.closed_get Session.closed_set GProgram.length_enc GProgram.ok_enc GProgram.all_get GProgram.all_set GProgram.pool_get GProgram.pool_set GProgram.preds_get GProgram.preds_set GProgram.rules_get GProgram.rules_set GProgram.strata_get GProgram.strata_set PredInfo.length_enc PredInfo.ok_enc PredInfo.all_get PredInfo.all_set PredInfo.arity_get PredInfo.arity_set PredInfo.base_get PredInfo.base_set PredInfo.stratum_get PredInfo.stratum_set Change.length_enc Change.ok_enc Change.all_get Change.all_set Change.del_get Change.del_set Change.pred_get Change.pred_set Change.t_get Change.t_set Store.length_enc Store.ok_enc Store.all_get Store.all_set Store.names_get Store.names_set Store.arity_get Store.arity_set Store.rows_get Store.rows_set Src.length_enc Src.ok_enc Src.all_get Src.all_set Src.b_get Src.b_set Src.at__get Src.at__set Atom.length_enc Atom.ok_enc Atom.all_get Atom.all_set Atom.pred_get Atom.pred_set Atom.args_get Atom.args_set GRule.length_enc GRule.ok_enc GRule.all_get GRule.all_set GRule.head_get GRule.head_set GRule.body_get GRule.body_set GRule.head_pred_get GRule.head_pred_set GRule.head_args_get GRule.head_args_set Cert.length_enc Cert.ok_enc Cert.all_get Cert.all_set Cert.names_get Cert.names_set Cert.nodes_get Cert.nodes_set Fact.length_enc Fact.ok_enc Fact.all_get Fact.all_set Fact.pred_get Fact.pred_set Fact.t_get Fact.t_set Literal.length_enc Literal.ok_enc Literal.all_get Literal.all_set Literal.neg_get Literal.neg_set Literal.atom_get Literal.atom_set Literal.atom_pred_get Literal.atom_pred_set Literal.atom_args_get Literal.atom_args_set Engine.length_enc Engine.ok_enc Engine.all_get Engine.all_set Engine.prog_get Engine.prog_set Engine.st_get Engine.st_set SrcCertm.length_enc SrcCertm.ok_enc SrcCertm.all_get SrcCertm.all_set SrcCertm.b_get SrcCertm.b_set SrcCertm.at__get SrcCertm.at__set GNode.length_enc GNode.ok_enc GNode.all_get GNode.all_set GNode.rule_get GNode.rule_set GNode.pred_get GNode.pred_set GNode.vals_get GNode.vals_set GNode.refs_get GNode.refs_set Term.length_enc Term.ok_enc Term.all_get Term.all_set Term.var_get Term.var_set Term.n_get Term.n_set Env.length_enc Env.ok_enc Env.all_get Env.all_set Env.val_get Env.val_set Env.set_get Env.set_set
attribute [local go_sem] size_put size_ext blk_put free_put blk_alloc free_alloc blk_drew free_drew blk_ext free_ext lookOr_some putOr_some segAt_some cellAt_some storeIn_some put_put put_alloc_new length_arr ok_arr_u8 ok_arr_u32 ok_arr_u64 ok_arr_i64 ok_arr_sl cellsV_agg cellsV_int cellsV_bool cellsV_string cellsV_pointer cellsV_slice cellsV_sl ok_int ok_bool ok_string ok_pointer ok_slice ok_sl toList_arr seg_arr set_arr nth_splice nth_splice0 seg_splice seg_splice0 splice_splice splice_splice0 length_splice_if
attribute [local go_sem ↓] execOp_box
attribute [local go_sem] box_run nth_arr_u8 put_arr_u8 blk_drewN free_drewN put_drewN blk_raw free_raw
def z56 : List Value := List.replicate 56 (Value.int .i64 0)
theorem z56_len : z56.length = 56 := List.length_replicate ..
theorem Try.ld108 (w : World) (b o : Nat) : (loadOp 108 (.pointer (some ⟨b, o, none⟩))).run Try.prog w = lookOr (segAt (blk w b) o 56) w (rawLoad Try.prog 108 ⟨b, o, none⟩ w) := load_agg Try.underlying108 rfl (by kernel_rfl) w b o
theorem Try.st108 (w : World) (b o : Nat) (v : Value) : (storeOp 108 (.pointer (some ⟨b, o, none⟩)) v).run Try.prog w = putOr (storeIn w (blk w b) b o 56 v) (rawStore Try.prog 108 ⟨b, o, none⟩ v w) := store_any (by kernel_rfl) w b o v
set_option maxRecDepth 100000 in
theorem Try.al108 (w : World) : (allocOp 108).run Try.prog w = .ok (.value (.pointer (some ⟨w.heap.size, 0, none⟩))) (w.alloc (.cells z56.toArray 108)) := alloc_any (v := .agg z56.toArray) (by kernel_rfl) w
theorem seg_nth' (C : List Value) (o n k : Nat) (h : k < n) : nth (seg C o n) k = nth C (o + k) := by
  unfold nth seg
  rw [List.getElem?_take, if_pos h, List.getElem?_drop]
theorem ok_ints {C : List Value} {n : Nat} (hl : C.length = n) (h : ∀ k, k < n → ∃ v, nth C k = some (.int .i64 v)) : okCells n C = true := by
  unfold okCells
  rw [Bool.and_eq_true, decide_eq_true_eq]
  refine ⟨hl, List.all_eq_true.2 fun v hv => ?_⟩
  obtain ⟨k, hk, e⟩ := List.getElem_of_mem hv
  obtain ⟨x, hx⟩ := h k (by omega)
  unfold nth at hx
  rw [List.getElem?_eq_getElem hk, e] at hx
  rw [Option.some.inj hx]
  rfl
attribute [local go_sem] Try.ld108 Try.st108 Try.al108 z56_len
set_option maxRecDepth 40000 in
set_option maxHeartbeats 2000000 in
theorem selfCheck_any {O : Own} {W : World} {bs g : Nat} {s : Sv} (h : SvAt O W bs g s) {m : Int} (hI : SvI m s) (hm : m ≤ 1000000000) (hT : Tal s) : Calls Try.prog 32 #[.pointer (some ⟨bs, 0, none⟩)] W fun e V => e = .returned (.bool true) ∧ W.Extends V := by
  obtain ⟨Q, hQ⟩ : ∃ Q : Ending → World → Prop, Q = fun e V => e = .returned (.bool true) ∧ W.Extends V := ⟨_, rfl⟩
  rw [← hQ]
  have HQ := hid_of hQ
  obtain ⟨CS, ip, ia, iN, ic, hM⟩ := h
  have HM := hid_of hM
  have hb := hM.cell
  have hbl := blk_lt hb
  have hlen := hM.c.len
  have c0 := hM.c.c0
  have c1 := hM.c.c1
  have c196 := hM.c.rs 196 (by omega) (by omega)
  obtain ⟨ST, hST⟩ : ∃ ST, ST = seg CS 197 56 := ⟨_, rfl⟩
  have hsl : ST.length = 56 := by rw [hST]; unfold seg; rw [List.length_take, List.length_drop]; omega
  have hsn : ∀ k, k < 56 → nth ST k = some (.int .i64 (s.rst (197 + k))) := fun k hk => by rw [hST, seg_nth' _ _ _ _ hk]; exact hM.c.rs (197 + k) (by omega) (by omega)
  have hso : okCells 56 ST = true := ok_ints hsl (fun k hk => ⟨_, hsn k hk⟩)
  have hsp : splice z56 0 ST = ST := splice_all _ _ (by rw [z56_len, hsl])
  have s0 := hsn 0 (by omega)
  have s1 := hsn 1 (by omega)
  have s2 := hsn 2 (by omega)
  have s3 := hsn 3 (by omega)
  have s4 := hsn 4 (by omega)
  have s5 := hsn 5 (by omega)
  have s12 := hsn 12 (by omega)
  have s22 := hsn 22 (by omega)
  have hb7 := hI.rst 197
  have hb8 := hI.rst 198
  have hb9 := hI.rst 199
  have hb0 := hI.rst 200
  have hb1 := hI.rst 219
  have hb2 := hI.rst 202
  have t1 := hT.sum
  have t2 := hT.seen
  have t3 := hT.mal
  have t4 := hT.ok
  have t5 := hT.non
  have hseg : seg CS 197 56 = ST := hST.symm
  have e0 : s.rst (197 + 0) = s.rst 197 := rfl
  rw [t2] at t1
  rw [e0, t2] at s0
  rw [show s.rst (197 + 1) = s.rst 198 from rfl] at s1
  rw [show s.rst (197 + 2) = s.rst 199 from rfl] at s2
  rw [show s.rst (197 + 3) = s.rst 200 from rfl] at s3
  rw [show s.rst (197 + 4) = s.rst 201 from rfl, ← t3] at s4
  rw [show s.rst (197 + 5) = s.rst 202 from rfl] at s5
  rw [show s.rst (197 + 12) = s.rst 209 from rfl, ← t4] at s12
  rw [show s.rst (197 + 22) = s.rst 219 from rfl] at s22
  obtain ⟨a6, ha6⟩ : ∃ v, v = s.rst 196 := ⟨_, rfl⟩
  obtain ⟨a8, ha8⟩ : ∃ v, v = s.rst 198 := ⟨_, rfl⟩
  obtain ⟨a9, ha9⟩ : ∃ v, v = s.rst 199 := ⟨_, rfl⟩
  obtain ⟨a0, ha0⟩ : ∃ v, v = s.rst 200 := ⟨_, rfl⟩
  obtain ⟨a2, ha2⟩ : ∃ v, v = s.rst 202 := ⟨_, rfl⟩
  obtain ⟨a1, ha1⟩ : ∃ v, v = s.rst 219 := ⟨_, rfl⟩
  rw [← ha6] at t1 s0 c196
  rw [← ha0, ← ha9, ← ha8] at t1
  rw [← ha8] at s1 s4 hb8
  rw [← ha9] at s2 hb9
  rw [← ha0] at s3 s12 hb0
  rw [← ha2] at s5 hb2
  rw [← ha1] at s22 hb1
  rw [← ha2, ← ha9, ← ha1] at t5
  have hT5 := hid_of t5
  have x1 : (a6 != a0 + a9 + a8) = false := by rw [← t1]; simp
  have x1' : (a6 == a0 + a9 + a8) = true := by rw [← t1]; simp
  have x2 : (a6 != a6) = false := by simp
  have x3 : (a8 != a8) = false := by simp
  have x4 : (a0 != a0) = false := by simp
  have l0 : 0 < CS.length := by omega
  have l1 : 1 < CS.length := by omega
  have l196 : 196 < CS.length := by omega
  have l197 : 197 + 56 ≤ CS.length := by omega
  have nb : ¬ bs = W.heap.size := by omega
  have HT1 := hid_of t1
  have HINS := hid_of hI.ins
  clear hQ hM hsn hT t2 t3 t4 t5 e0 ha6 ha8 ha9 ha0 ha2 ha1 hST t1 hI hlen hb7
  go_enter Try.func32, Try.ntmps32
  go_upto_region 2 with fail
  refine wp_world (fun V => W.Extends V ∧ blk V W.heap.size = some ST) ⟨?_, ?_⟩ ?_
  · first | exact extends_alloc (ext_Ext (Ext.refl _)) _ | exact (Side.put (D := fun k => k = W.heap.size) (Side.refl _ _) rfl _).extends (extends_alloc (ext_Ext (Ext.refl _)) _) (fun k hk => by have hk' : k = W.heap.size := hk; omega)
  · first | (rw [blk_alloc, if_pos rfl]) | (rw [blk_put, if_pos rfl, blk_alloc, if_pos rfl]; rfl)
  rintro V1 ⟨hx1, hb3⟩
  have hbV : blk V1 bs = some CS := (hx1.blk hbl).trans hb
  obtain ⟨b3, e3⟩ : ∃ b3, b3 = W.heap.size := ⟨_, rfl⟩
  rw [← e3] at hb3 ⊢
  have HX1 := hid_of hx1
  clear e3 hx1 hseg hsp hso nb
  go_upto_region 2 with fail
  go_quiet (fail)
  cases hi : s.inst with
  | none =>
    obtain ⟨rfl, rfl, rfl⟩ := HM.out.no hi
    have t5 := hT5.out hi
    have x5 : (a2 == a9 - a1) = true := by rw [t5]; simp
    have HP : Hid (Q (.returned (.bool true)) (V1.drewN nq)) := by show Q _ _; rw [HQ.out]; exact ⟨rfl, extends_drewN HX1.out nq⟩
    have hnil : ∀ W', (binOp .eql 27 (.slice none 0 ic) (.slice none 0 0)).run Try.prog W' = .ok (.bool true) W' := fun W' => by kernel_rfl
    clear t5
    go_wp2_with fail
    all_goals first | exact HP.out | (go_ret; exact HP.out)
  | some t =>
    obtain ⟨B, bi, rfl, -, hA⟩ := HM.out.ins t hi
    have hct := counts_any (hA.ext (extends_drewN HX1.out nq)) (HINS.out t hi)
    have HP : Hid (∀ V, (V1.drewN nq).Extends V → Q (.returned (.bool true)) V) := fun V hx => by rw [HQ.out]; exact ⟨rfl, (extends_drewN HX1.out nq).trans hx⟩
    clear hA
    go_wp2_with fail
    refine hct.mono ?_
    rintro e V2 ⟨rfl, hx2⟩
    dsimp only
    have HP2 := hid_of (HP.out V2 hx2)
    clear hx2
    go_wp2_with fail
    all_goals first | exact HP2.out | (go_ret; exact HP2.out)
def a9I (Ob : Own) (Wb : World) (bs : Nat) (A : Option Addr) (N Cp : Nat) (f : Nat → Value) (V : World) : Prop := f 3 = .pointer (some ⟨bs, 0, none⟩) ∧ f 4 = .slice A N Cp ∧ ∃ i : Nat, i ≤ N ∧ f 5 = .int .i64 (i : Nat) ∧ Hid (∃ s O g, LS Ob Wb bs (1000 + 10 * (i : Int)) s O g V ∧ Tal s)
set_option maxRecDepth 100000 in
theorem frame27s (f : Nat → Value) : frameN 27 f = #[f 0, f 1, f 2, f 3, f 4, f 5, f 6, f 7, f 8, f 9, f 10, f 11, f 12, f 13, f 14, f 15, f 16, f 17, f 18, f 19, f 20, f 21, f 22, f 23, f 24, f 25, f 26] := by kernel_rfl
set_option maxRecDepth 40000 in
set_option maxHeartbeats 2000000 in
theorem self_walk (w : World) (a : Option Addr) (len cap : Nat) (g : Nat → GOp) (dt : Nat → List UInt8) (hS : ScriptAt w a len cap g dt) : Calls Try.prog 9 #[.slice a len cap] w fun e w' => e = .returned (.bool true) ∧ w.Extends w' := by
  have HS : Hid (ScriptAt w a len cap g dt) := hS
  have hS0 := hS
  clear hS
  go_enter Try.func9, Try.ntmps9
  go_wp2_with fail
  refine (small_any w a len cap g dt hS0).mono ?_
  rintro e w1 ⟨⟨r, rfl, hr⟩, rfl⟩
  clear hS0
  dsimp only
  cases r
  · go_wp2_with fail
    go_ret
    exact ⟨rfl, ext_Ext (Ext.refl _)⟩
  obtain ⟨hlen, hsz⟩ := hr rfl
  have HSZ : Hid (∀ i, i < len → (g i).raw.len ≤ 65536) := hsz
  clear hr hsz
  go_wp2_with fail
  refine (new_any w1).mono ?_
  rintro e w2 ⟨rfl, e2⟩
  dsimp only
  have HS2 : Hid (ScriptAt w2 a len cap g dt) := by
    show ScriptAt _ _ _ _ _ _
    rw [e2]
    exact HS.out.mono (extends_alloc (ext_Ext (Ext.refl _)) _)
  have HE2 := hid_of e2
  clear e2
  go_wp2_with fail
  refine (sends_any w2 a len cap g dt HS2.out hlen).mono ?_
  rintro e W1 ⟨A, N, Cp, L, rfl, hat⟩
  dsimp only
  rw [HE2.out] at hat
  have hbeg := beg_of HS.out hlen HSZ.out hat
  obtain ⟨bs, ebs⟩ : ∃ bs, bs = w1.heap.size := ⟨_, rfl⟩
  rw [← ebs] at hbeg ⊢
  obtain ⟨Ob, hOb⟩ : ∃ Ob, Ob = lab (lab (fun _ => Lab.no) bs (.a 0 0)) (bs + 1) .no := ⟨_, rfl⟩
  rw [← hOb] at hbeg
  have HBEG := hid_of hbeg
  have H57 : Hid (∀ k, k < W1.heap.size → ¬ ∃ j, Ob k = .a 5 j) := fun k _ => by
    rintro ⟨j, e⟩
    rw [hOb] at e
    by_cases h1 : k < bs + 1
    · rw [lab_lt h1] at e
      by_cases h2 : k < bs
      · rw [lab_lt h2] at e; cases e
      · rw [lab_ge (by omega)] at e; have := (Lab.a.inj e).1; omega
    · rw [lab_ge (by omega)] at e; cases e
  have hN : N ≤ 65536 := hbeg.nn
  clear hat hbeg ebs hOb HS2 HE2 HSZ
  go_upto_region 6 with fail
  refine wp_loop_f 27 (a9I Ob W1 bs A N Cp) (fun f _ => N - (intOf (f 5)).toNat) rfl ⟨rfl, rfl, 0, by omega, rfl, ⟨Sv.zero, Ob, 0, HBEG.out.ls, Tal.zero⟩⟩ ?_
  intro F V hrel
  obtain ⟨f3, f4, i, hi, f5, HJ⟩ := hrel
  have H5 := hid_of f5
  rw [frame27s, f3, f4, f5]
  clear f3 f4 f5
  obtain ⟨s, O, g0, hLS, hTal⟩ := HJ.out
  have HLS := hid_of hLS
  have HT := hid_of hTal
  clear HJ hTal
  by_cases hin : i < N
  rotate_left 1
  · have hin' : ¬ (i : Int) < (N : Int) := by omega
    have HX := hid_of (kp_ext hLS.kp HBEG.out.ex HBEG.out.old)
    clear hLS
    go_wp2_with fail
    go_ret
    exact ⟨rfl, HX.out⟩
  have hin' : (i : Int) < (N : Int) := by omega
  have i0 : (0 : Int) ≤ (i : Int) := by omega
  have i2 : ((i : Int)).toNat = i := by omega
  obtain ⟨x, raw, br, CR, rfl, hbr, hobr, hcl, hnr, hrl, hdx⟩ := HBEG.out.at hin
  obtain ⟨hbrV, hobV⟩ := hLS.blk hbr hobr
  have hsv := hLS.serve (by omega) x raw (hdx.sub hLS.sub) hrl
  have HRL := hid_of hrl
  obtain ⟨xa, xn, xc⟩ := x
  dsimp only at hnr hsv
  clear hLS hbr hobr hdx hrl hobV
  go_wp2_with fail
  refine hsv.mono ?_
  rintro e V2 ⟨ra, rn, rc, q, s', O', g', rfl, hsr, hRB, hK2, hL2, hBs2, hrc1, hrc2⟩
  dsimp only
  have hT2 := hsr.tal HLS.out.inv HRL.out HT.out
  have hsc := selfCheck_any hL2.sv hL2.inv (by omega) hT2
  have HL2 := hid_of hL2
  have HT2 := hid_of hT2
  clear hsv hsr hRB hK2 hL2 hBs2 hrc1 hrc2 hT2 hbrV
  go_wp2_with fail
  refine hsc.mono ?_
  rintro e V3 ⟨rfl, hx3⟩
  dsimp only
  have HJ' : Hid (∃ s O g, LS Ob W1 bs (1000 + 10 * ((i + 1 : Nat) : Int)) s O g V3 ∧ Tal s) := by
    have e9 : (1000 + 10 * ((i + 1 : Nat) : Int)) = 1000 + 10 * (i : Int) + 10 := by omega
    exact ⟨s', _, g', by rw [e9]; exact HL2.out.grow hx3, HT2.out⟩
  clear hsc hx3
  go_wp2_with fail
  refine ⟨rfl, rfl, ⟨rfl, rfl, i + 1, by omega, ?_, HJ'⟩, ?_⟩
  · show Value.int .i64 _ = _
    go_num
  · show N - (intOf (Value.int .i64 _)).toNat < N - (intOf (F 5)).toNat
    rw [H5.out]
    simp [intOf]; omega
end Go.Proofs.Qxb6500787a
