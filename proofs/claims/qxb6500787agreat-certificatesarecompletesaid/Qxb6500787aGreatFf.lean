import Derived.Test.Qxb6500787aGreatFe
import Derived.Test.Qxb6500787aGreatEm

import Derived.StillTailTactics
import Derived.Deep.QuietTactic
import Derived.BigQuiet
import Derived.Deep.RegionHeld
import Derived.Deep.CutRange
import Derived.Laws.ResultCell
import Derived.Laws.Rows
import Derived.DeepKeys
import Derived.DataBytes
import Derived.Laws.StructEq
import Derived.Laws.AppendOwn
import Derived.Laws.MakeOwn
import Derived.Lib.AppendStr
set_option linter.unusedSimpArgs false
set_option linter.unusedVariables false
namespace Go.Proofs.Qxb6500787aGreat
open Go.RowKit Go.Blk
attribute [local go_sem ↓] execOp_load execOp_store execOp_alloc
attribute [local go_sem] Tryz.ld26 Tryz.st26 Tryz.ld27 Tryz.st27 Tryz.ld28 Tryz.st28 Tryz.ld3 Tryz.st3 Tryz.ld29 Tryz.st29 Tryz.ld44 Tryz.st44 Tryz.ld4 Tryz.st4 Tryz.ld50 Tryz.st50 Tryz.ld32 Tryz.st32 Tryz.ld49 Tryz.st49 Tryz.ld68 Tryz.st68 Tryz.ld9 Tryz.st9 Tryz.ld40 Tryz.st40 Tryz.ld138 Tryz.st138 Tryz.ld139 Tryz.st139 Tryz.ld146 Tryz.st146 Tryz.ld183 Tryz.st183 Tryz.ld184 Tryz.st184 Tryz.ld192 Tryz.st192 Tryz.ld195 Tryz.st195 Tryz.ld217 Tryz.st217 Tryz.ld159 Tryz.st159 Tryz.ld142 Tryz.st142 Tryz.ld2 Tryz.st2 Tryz.ld5 Tryz.st5 Tryz.ld12 Tryz.st12 Tryz.ld21 Tryz.st21 Tryz.ld22 Tryz.st22 Tryz.ld24 Tryz.st24 Tryz.ld58 Tryz.st58 Tryz.ld97 Tryz.st97 Tryz.ld101 Tryz.st101 Tryz.ld116 Tryz.st116 Tryz.ld121 Tryz.st121 Tryz.ld135 Tryz.st135 Tryz.ld136 Tryz.st136 Tryz.ld143 Tryz.st143 Tryz.ld148 Tryz.st148 Tryz.ld154 Tryz.st154 Tryz.ld173 Tryz.st173 Tryz.ld187 Tryz.st187 Tryz.ld222 Tryz.st222 Tryz.ld241 Tryz.st241 Tryz.ld248 Tryz.st248 Tryz.ld268 Tryz.st268 Tryz.ld272 Tryz.st272 Tryz.ld153 Tryz.st153 Tryz.ld255 Tryz.st255 Tryz.ld256 Tryz.st256 Tryz.ld129 Tryz.st129 Tryz.ld152 Tryz.st152 Tryz.ld31 Tryz.st31 Tryz.ld46 Tryz.st46 Tryz.ld52 Tryz.st52 Tryz.ld54 Tryz.st54 Tryz.ld60 Tryz.st60 Tryz.ld70 Tryz.st70 Tryz.ld74 Tryz.st74 Tryz.ld93 Tryz.st93 Tryz.ld141 Tryz.st141 Tryz.ld151 Tryz.st151 Tryz.ld170 Tryz.st170 Tryz.ld186 Tryz.st186 Tryz.ld189 Tryz.st189 Tryz.ld194 Tryz.st194 Tryz.ld197 Tryz.st197 Tryz.ld219 Tryz.st219 Tryz.ld224 Tryz.st224 Tryz.ld230 Tryz.st230 Tryz.ld235 Tryz.st235 Tryz.ld243 Tryz.st243 Tryz.ld247 Tryz.st247 Tryz.ld252 Tryz.st252 Tryz.ld258 Tryz.st258 Tryz.al153 Tryz.al255 Tryz.al256 Tryz.al129 Tryz.al152 Tryz.al31 Tryz.al46 Tryz.al52 Tryz.al54 Tryz.al60 Tryz.al70 Tryz.al74 Tryz.al93 Tryz.al141 Tryz.al151 Tryz.al170 Tryz.al186 Tryz.al189 Tryz.al194 Tryz.al197 Tryz.al219 Tryz.al224 Tryz.al230 Tryz.al235 Tryz.al243 Tryz.al247 Tryz.al252 Tryz.al258
attribute [local go_sem] Request.length_enc Request.ok_enc Request.all_get Request.all_set Request.kind_get Request.kind_set Request.blob_get Request.blob_set Request.items_get Request.items_set Request.pred_get Request.pred_set Request.slots_get Request.slots_set Trace.length_enc Trace.ok_enc Trace.all_get Trace.all_set Trace.op_get Trace.op_set Trace.calls_get Trace.calls_set Item.length_enc Item.ok_enc Item.all_get Item.all_set Item.del_get Item.del_set Item.pred_get Item.pred_set Item.args_get Item.args_set Reply.length_enc Reply.ok_enc Reply.all_get Reply.all_set Reply.code_get Reply.code_set Reply.kind_get Reply.kind_set Reply.index_get Reply.index_set Reply.yes_get Reply.yes_set Reply.preds_get Reply.preds_set Reply.rules_get Reply.rules_set Reply.arity_get Reply.arity_set Reply.rows_get Reply.rows_set Reply.fact_get Reply.fact_set Reply.fact_del_get Reply.fact_del_set Reply.fact_pred_get Reply.fact_pred_set Reply.fact_args_get Reply.fact_args_set GEntry.length_enc GEntry.ok_enc GEntry.all_get GEntry.all_set GEntry.seq_get GEntry.seq_set GEntry.kind_get GEntry.kind_set GEntry.code_get GEntry.code_set GOp.length_enc GOp.ok_enc GOp.all_get GOp.all_set GOp.kind_get GOp.kind_set GOp.raw_get GOp.raw_set Reader.length_enc Reader.ok_enc Reader.all_get Reader.all_set Reader.buf_get Reader.buf_set Reader.at__get Reader.at__set Slot.length_enc Slot.ok_enc Slot.all_get Slot.all_set Slot.bound_get Slot.bound_set Slot.name_get Slot.name_set Session.length_enc Session.ok_enc Session.all_get Session.all_set Session.svc_get Session.svc_set Session.buf_get Session.buf_set Session.closed_get Session.closed_set GProgram.length_enc GProgram.ok_enc GProgram.all_get GProgram.all_set GProgram.pool_get GProgram.pool_set GProgram.preds_get GProgram.preds_set GProgram.rules_get GProgram.rules_set GProgram.strata_get GProgram.strata_set PredInfo.length_enc PredInfo.ok_enc PredInfo.all_get PredInfo.all_set PredInfo.arity_get PredInfo.arity_set PredInfo.base_get PredInfo.base_set PredInfo.stratum_get PredInfo.stratum_set Change.length_enc Change.ok_enc Change.all_get Change.all_set Change.del_get Change.del_set Change.pred_get Change.pred_set Change.t_get Change.t_set Store.length_enc Store.ok_enc Store.all_get Store.all_set Store.names_get Store.names_set Store.arity_get Store.arity_set Store.rows_get Store.rows_set Src.length_enc Src.ok_enc Src.all_get Src.all_set Src.b_get Src.b_set Src.at__get Src.at__set Atom.length_enc Atom.ok_enc Atom.all_get Atom.all_set Atom.pred_get Atom.pred_set Atom.args_get Atom.args_set GRule.length_enc GRule.ok_enc GRule.all_get GRule.all_set GRule.head_get GRule.head_set GRule.body_get GRule.body_set GRule.head_pred_get GRule.head_pred_set GRule.head_args_get GRule.head_args_set Cert.length_enc Cert.ok_enc Cert.all_get Cert.all_set Cert.names_get Cert.names_set Cert.nodes_get Cert.nodes_set Fact.length_enc Fact.ok_enc Fact.all_get Fact.all_set Fact.pred_get Fact.pred_set Fact.t_get Fact.t_set Literal.length_enc Literal.ok_enc Literal.all_get Literal.all_set Literal.neg_get Literal.neg_set Literal.atom_get Literal.atom_set Literal.atom_pred_get Literal.atom_pred_set Literal.atom_args_get Literal.atom_args_set Engine.length_enc Engine.ok_enc Engine.all_get Engine.all_set Engine.prog_get Engine.prog_set Engine.st_get Engine.st_set SrcCertm.length_enc SrcCertm.ok_enc SrcCertm.all_get SrcCertm.all_set SrcCertm.b_get SrcCertm.b_set SrcCertm.at__get SrcCertm.at__set GNode.length_enc GNode.ok_enc GNode.all_get GNode.all_set GNode.rule_get GNode.rule_set GNode.pred_get GNode.pred_set GNode.vals_get GNode.vals_set GNode.refs_get GNode.refs_set Term.length_enc Term.ok_enc Term.all_get Term.all_set Term.var_get Term.var_set Term.n_get Term.n_set Env.length_enc Env.ok_enc Env.all_get Env.all_set Env.val_get Env.val_set Env.set_get Env.set_set
attribute [local go_sem] size_put size_ext blk_put free_put blk_alloc free_alloc blk_drew free_drew blk_ext free_ext lookOr_some putOr_some segAt_some cellAt_some storeIn_some put_put put_alloc_new length_arr ok_arr_u8 ok_arr_u32 ok_arr_u64 ok_arr_i64 ok_arr_sl cellsV_agg cellsV_int cellsV_bool cellsV_string cellsV_pointer cellsV_slice cellsV_sl ok_int ok_bool ok_string ok_pointer ok_slice ok_sl toList_arr seg_arr set_arr nth_splice nth_splice0 seg_splice seg_splice0 splice_splice splice_splice0 length_splice_if
attribute [local go_sem ↓] execOp_box
attribute [local go_sem] box_run nth_arr_u8 put_arr_u8 blk_drewN free_drewN put_drewN blk_raw free_raw
theorem Tw.self {Ob : Own} {Wb : World} {b1 b2 : Nat} {m1 m2 : Int} {s t : Sv} {O1 O2 : Own} {g1 g2 : Nat} {V : World} (h : Tw Ob Wb b1 b2 m1 m2 s t O1 O2 g1 g2 V) : Tw O1 V b1 b2 m1 m2 s t O1 O2 g1 g2 V := ⟨rfl, rfl, rfl, Nat.le_refl _, fun k _ ho => ⟨ho, rfl⟩, h.l1, h.l2, h.no, h.x1, h.x2⟩
theorem Tw.via {Ob : Own} {Wb : World} {b1 b2 : Nat} {m1 m2 m1' m2' : Int} {s t s' t' : Sv} {O1 O2 O1' O2' : Own} {g1 g2 g1' g2' : Nat} {V V' : World} (h : Tw Ob Wb b1 b2 m1 m2 s t O1 O2 g1 g2 V) (h' : Tw O1 V b1 b2 m1' m2' s' t' O1' O2' g1' g2' V') : Tw Ob Wb b1 b2 m1' m2' s' t' O1' O2' g1' g2' V' := ⟨h'.os.trans h.os, h'.tape.trans h.tape, h'.output.trans h.output, Nat.le_trans h.size h'.size, fun k hk ho => by
  obtain ⟨e1, e2⟩ := h.keep k hk ho
  obtain ⟨e3, e4⟩ := h'.keep k (Nat.lt_of_lt_of_le hk h.size) e1
  exact ⟨e3, e4.trans e2⟩, h'.l1, h'.l2, h'.no, h'.x1, h'.x2⟩
theorem zisF_mem {z : RD} {L : List RD} (h : z ∈ zisF L) : z ∈ L := by
  have key : ∀ (M A : List RD), z ∈ M.foldl zinsP A → z ∈ A ∨ z ∈ M := by
    intro M
    induction M with
    | nil => exact fun A h => .inl h
    | cons y M ih =>
      intro A h
      rcases ih _ h with h | h
      · rcases (zinsP_mem A y z).1 h with h | h
        · exact .inr (by rw [h]; exact List.mem_cons_self)
        · exact .inl h
      · exact .inr (List.mem_cons_of_mem _ h)
  rcases key L [] h with h | h
  · cases h
  · exact h
def l9I (Ob : Own) (Wb : World) (bs bm : Nat) (A : Option Addr) (N Cp : Nat) (f : Nat → Value) (V : World) : Prop := f 3 = .pointer (some ⟨bs, 0, none⟩) ∧ f 4 = .pointer (some ⟨bm, 0, none⟩) ∧ f 5 = .slice A N Cp ∧ ∃ i : Nat, i ≤ N ∧ f 6 = .int .i64 (i : Nat) ∧ Hid (∃ s m O g, JM Ob Wb bs bm (1000 + 10 * (i : Int)) s m O g V ∧ ImgI s)
/-- The fresh service while facts are put into it. -/
def p9F (B : Own) (Wb : World) (bs bf : Nat) (M M2 : Int) (s : Sv) (m : MS) (p i : Nat) (V : World) : Prop := ∃ w O1 O2 g1 g2 F' t, Tw B Wb bs bf M M2 s w O1 O2 g1 g2 V ∧ SvF w ∧ w.inst = some t ∧ AgT t ⟨true, m.p, F'⟩ ∧ FrI m p i F'
def p9A (bs bm bf bc : Nat) (p : Nat) (f : Nat → Value) : Prop := f 3 = .pointer (some ⟨bs, 0, none⟩) ∧ f 4 = .pointer (some ⟨bm, 0, none⟩) ∧ f 7 = .pointer (some ⟨bf, 0, none⟩) ∧ f 8 = .pointer (some ⟨bc, 0, none⟩) ∧ f 9 = .int .i64 (p : Nat)
def p9L2 (B : Own) (Wb : World) (bs bm bf bc : Nat) (M : Int) (s : Sv) (m : MS) (fn : Nat) (f : Nat → Value) (V : World) : Prop := ∃ p : Nat, p ≤ fn ∧ p9A bs bm bf bc p f ∧ Hid (p9F B Wb bs bf M (1010 + 5120 * (p : Int)) s m p 0 V)
def p9L3 (B : Own) (Wb : World) (bs bm bf bc : Nat) (M : Int) (s : Sv) (m : MS) (p : Nat) (ra : Option Addr) (rn rc : Nat) (f : Nat → Value) (V : World) : Prop := p9A bs bm bf bc p f ∧ f 10 = .slice ra rn rc ∧ ∃ i : Nat, i ≤ rn ∧ f 11 = .int .i64 (i : Nat) ∧ Hid (p9F B Wb bs bf M (1010 + 5120 * (p : Int) + 10 * (i : Int)) s m p i V)
set_option maxRecDepth 100000 in
theorem zframe100 (f : Nat → Value) : frameN 100 f = #[f 0, f 1, f 2, f 3, f 4, f 5, f 6, f 7, f 8, f 9, f 10, f 11, f 12, f 13, f 14, f 15, f 16, f 17, f 18, f 19, f 20, f 21, f 22, f 23, f 24, f 25, f 26, f 27, f 28, f 29, f 30, f 31, f 32, f 33, f 34, f 35, f 36, f 37, f 38, f 39, f 40, f 41, f 42, f 43, f 44, f 45, f 46, f 47, f 48, f 49, f 50, f 51, f 52, f 53, f 54, f 55, f 56, f 57, f 58, f 59, f 60, f 61, f 62, f 63, f 64, f 65, f 66, f 67, f 68, f 69, f 70, f 71, f 72, f 73, f 74, f 75, f 76, f 77, f 78, f 79, f 80, f 81, f 82, f 83, f 84, f 85, f 86, f 87, f 88, f 89, f 90, f 91, f 92, f 93, f 94, f 95, f 96, f 97, f 98, f 99] := by kernel_rfl
attribute [local go_sem] Tryz.zl75 Tryz.zs75 Tryz.zl52 Tryz.zs52 bne_self_eq_false
set_option maxRecDepth 40000 in
set_option maxHeartbeats 2000000 in
theorem fresh_walk (w : World) (a : Option Addr) (len cap : Nat) (g : Nat → GOp) (dt : Nat → List UInt8) (hS : ScriptAt w a len cap g dt) : Calls Tryz.prog 9 #[.slice a len cap] w fun e w' => e = .returned (.bool true) ∧ w.Extends w' := by
  have HS : Hid (ScriptAt w a len cap g dt) := hS
  have hS0 := hS
  clear hS
  go_enter Tryz.func9, Tryz.ntmps9
  go_wp2_with fail
  refine (small_any w a len cap g dt hS0).mono ?_
  rintro e w1 ⟨⟨r, rfl, hr⟩, rfl⟩
  clear hS0
  dsimp only
  cases r
  · go_wp2_with fail
    go_ret
    exact ⟨rfl, ext_Ext (Ext.refl _)⟩
  obtain ⟨hlen, hsz⟩ := hr rfl
  have HSZ : Hid (∀ i, i < len → (g i).raw.len ≤ 65536) := hsz
  clear hr hsz
  go_wp2_with fail
  refine (new_any w1).mono ?_
  rintro e w2 ⟨rfl, e2⟩
  dsimp only
  have HE2 := hid_of e2
  clear e2
  go_wp2_with fail
  refine (mnew_any w2).mono ?_
  rintro e w3 ⟨rfl, e3⟩
  dsimp only
  have hsz2 : w2.heap.size = w1.heap.size + 1 := by rw [HE2.out, World.size_alloc]
  rw [HE2.out] at e3
  rw [hsz2]
  have HS3 : Hid (ScriptAt w3 a len cap g dt) := by
    show ScriptAt _ _ _ _ _ _
    rw [e3]
    exact (HS.out.mono (extends_alloc (ext_Ext (Ext.refl _)) _)).mono (extends_alloc (ext_Ext (Ext.refl _)) _)
  have HE3 := hid_of e3
  clear e3 hsz2 HE2
  go_wp2_with fail
  refine (sends_any w3 a len cap g dt HS3.out hlen).mono ?_
  rintro e W1 ⟨A, N, Cp, L, rfl, hat⟩
  dsimp only
  rw [HE3.out] at hat
  obtain ⟨hbeg, hjm⟩ := beg3_of HS.out hlen HSZ.out hat
  obtain ⟨bs, ebs⟩ : ∃ bs, bs = w1.heap.size := ⟨_, rfl⟩
  rw [← ebs] at hbeg hjm ⊢
  obtain ⟨bm, ebm⟩ : ∃ bm, bm = bs + 1 := ⟨_, rfl⟩
  rw [← ebm] at hjm ⊢
  obtain ⟨Ob, hOb⟩ : ∃ Ob, Ob = OL bs (.a 0 7) := ⟨_, rfl⟩
  rw [← hOb] at hbeg hjm
  have HBEG := hid_of hbeg
  have HJ0 : Hid (∃ s m O g, JM Ob W1 bs bm (1000 + 10 * ((0 : Nat) : Int)) s m O g W1 ∧ ImgI s) := ⟨_, _, _, _, hjm, imgI_zero⟩
  have hN : N ≤ 65536 := hbeg.nn
  clear hat hbeg ebs hOb HS3 HE3 HSZ hjm ebm
  go_upto_region 6 with fail
  refine wp_loop_f 100 (l9I Ob W1 bs bm A N Cp) (fun f _ => N - (intOf (f 6)).toNat) rfl ⟨rfl, rfl, rfl, 0, by omega, rfl, HJ0⟩ ?_
  clear HJ0
  intro F V hrel
  obtain ⟨f3, f4, f5, i, hi, f6, HJ⟩ := hrel
  have H6 := hid_of f6
  rw [zframe100, f3, f4, f5, f6]
  clear f3 f4 f5 f6
  obtain ⟨s, m, O, g0, hJM, hIM⟩ := HJ.out
  have HJM := hid_of hJM
  have HIM := hid_of hIM
  clear HJ hIM
  by_cases hin : i < N
  rotate_left 1
  · have hin' : ¬ (i : Int) < (N : Int) := by omega
    obtain ⟨Ce, fa, fc, hMo⟩ := hJM.mo
    have hbmV := hMo.cell
    have cld := hMo.ld
    have kc0 : 0 < Ce.length := by rw [hMo.len]; omega
    have kc6 : 6 < Ce.length := by rw [hMo.len]; omega
    have c6 := hMo.fs
    have HX : Hid (w1.Extends V) := kp_ext hJM.ls.kp HBEG.out.ex HBEG.out.old
    have hi1 : i ≤ 65536 := by omega
    cases hlm : m.ld with
    | false =>
      rw [hlm] at cld
      have hno : s.inst = none := by
        rcases hJM.ag with ⟨h1, -⟩ | ⟨t, -, h⟩
        · exact h1
        · have := h.ld; rw [hlm] at this; cases this
      have hlo : Calls Tryz.prog 41 #[.pointer (some ⟨bs, 0, none⟩)] V fun e V' => e = .returned (.bool false) ∧ V' = V := by
        have h9 := loaded_any hJM.ls.sv
        rw [hno] at h9
        exact h9
      clear hJM hMo hlm hno
      go_wp2_with fail
      refine hlo.mono ?_
      rintro e V1 ⟨rfl, rfl⟩
      dsimp only
      clear hlo
      go_wp2_with fail
      go_ret
      exact ⟨rfl, HX.out⟩
    | true =>
      rw [hlm] at cld
      have hMI := hJM.ag.msi hJM.ls.inv hlm
      obtain ⟨t, hti, hAT⟩ : ∃ t, s.inst = some t ∧ AgT t m := by
        rcases hJM.ag with ⟨-, h⟩ | h
        · rw [h] at hlm; cases hlm
        · exact h
      obtain ⟨i1, i2, i3, i4⟩ := HIM.out t hti
      have HI := hid_of (⟨i1, i2, i3⟩ : (decP s.img).1 = 0 ∧ VerR (decP s.img).2 0 t.p ∧ FstO t.p)
      have HAT : Hid (s.inst = some t ∧ AgT t m) := ⟨hti, hAT⟩
      have HMI := hid_of hMI
      have HMO := hid_of hMo
      have HLM := hid_of hlm
      obtain ⟨fn, efn⟩ : ∃ fn, fn = m.F.length := ⟨_, rfl⟩
      rw [← efn] at c6
      have hfn64 : fn ≤ 64 := by rw [efn, hMI.len]; exact hMI.pg.g.pok.nD
      have HFN := hid_of efn
      have hnw := new_any V
      clear hJM hMo hlm i1 i2 i3 hti hAT hMI efn HIM
      go_wp2_with fail
      refine hnw.mono ?_
      rintro e V1 ⟨rfl, e1⟩
      dsimp only
      have HE1 := hid_of e1
      have hnc := newClient_any V1 V.heap.size
      clear hnw e1
      go_wp2_with fail
      refine hnc.mono ?_
      rintro e V2 ⟨rfl, e2⟩
      dsimp only
      have hx1 : V.Extends V1 := by rw [HE1.out]; exact extends_alloc (ext_Ext (Ext.refl _)) _
      have hx2 : V1.Extends V2 := by rw [e2]; exact extends_alloc (ext_Ext (Ext.refl _)) _
      have hbf1 : blk V1 V.heap.size = some newE := by rw [HE1.out, blk_alloc, if_pos rfl]
      have hff1 : free V1 V.heap.size = true := by rw [HE1.out, free_alloc, if_pos rfl]
      have hsz : V1.heap.size = V.heap.size + 1 := by rw [HE1.out, World.size_alloc]
      have hbc0 : blk V2 V1.heap.size = some (clE V.heap.size) := by rw [e2, blk_alloc, if_pos rfl]
      have hx02 := hx1.trans hx2
      have hTw := tw_fresh HJM.out hx02 ((hx2.blk (blk_lt hbf1)).trans hbf1) ((free_of_heap (hx2.block _ (blk_lt hbf1))).trans hff1)
      have hbmlt := blk_lt hbmV
      have hbcO : zO1 O V.heap.size bm V1.heap.size = .no := zO1_gt (by omega)
      have hbmO : zO1 O V.heap.size bm bm = .no := zO1_bm hbmlt
      have hbm2 : blk V2 bm = some Ce := (hx02.blk hbmlt).trans hbmV
      have hFc2 : FactsAt (core (zO1 O V.heap.size bm) V2) fa fn m.F := by
        rw [HFN.out]
        exact (HMO.out.fc HLM.out).sub (zO1_core (by rw [HMO.out.own]; exact fun e => by cases e) hx02)
      have hold : ∀ k, k < w1.heap.size → zO1 O V.heap.size bm k = .no := fun k hk => by
        have h8 : k < W1.heap.size := Nat.lt_of_lt_of_le hk HBEG.out.ex.size
        have h9 := (HJM.out.ls.kp.keep k h8 (.inl (HBEG.out.old k hk))).1
        rw [HBEG.out.old k hk] at h9
        have hne : k ≠ bm := fun e => by rw [e, HMO.out.own] at h9; cases h9
        rw [zO1_lt (Nat.lt_of_lt_of_le h8 HJM.out.ls.kp.size) hne]
        exact h9
      have HX2 : Hid (w1.Extends V2) := HX.out.trans hx02
      obtain ⟨bf, ebf⟩ : ∃ bf, bf = V.heap.size := ⟨_, rfl⟩
      obtain ⟨bc, ebc⟩ : ∃ bc, bc = V1.heap.size := ⟨_, rfl⟩
      rw [← ebf] at hTw hbcO hbmO hFc2 hold hbc0 ⊢
      rw [← ebc] at hbcO hbc0 ⊢
      obtain ⟨B1, eB1⟩ : ∃ B1, B1 = zO1 O bf bm := ⟨_, rfl⟩
      obtain ⟨B2, eB2⟩ : ∃ B2, B2 = zO2 O bf bm := ⟨_, rfl⟩
      rw [← eB1, ← eB2] at hTw
      rw [← eB1] at hbcO hbmO hFc2 hold
      obtain ⟨M, eM⟩ : ∃ M : Int, M = 1000 + 10 * (i : Int) := ⟨_, rfl⟩
      rw [← eM] at hTw
      have hM : 1000 ≤ M ∧ M ≤ 700000 := by omega
      have HTW := hid_of hTw
      have HBC : Hid (blk V2 bc = some (clE bf) ∧ B1 bc = .no) := ⟨hbc0, hbcO⟩
      have HBM : Hid (blk V2 bm = some Ce ∧ B1 bm = .no) := ⟨hbm2, hbmO⟩
      have HFC := hid_of hFc2
      have HOLD := hid_of hold
      have eim : imgF s = s.img := by unfold imgF; rw [HAT.out.1]
      have him := image2_any hTw.l1.sv (by omega)
      rw [eim] at him
      clear hnc e2 hx1 hx2 hbf1 hff1 hsz hx02 hTw hbmlt hbcO hbmO hbm2 hFc2 hold ebf ebc eB1 eB2 eM eim hbmV hbc0 HE1 HX HJM HMO HLM cld
      go_wp2_with fail
      refine him.mono ?_
      rintro e V3 ⟨a8, c8, rfl, ho8, hx3⟩
      dsimp only
      obtain ⟨P1, P2, hT3⟩ := HTW.out.grow hx3
      have h9 := bs_own ho8
      have hbc3 : blk V3 bc = some (clE bf) := (hT3.blk HBC.out.1 HBC.out.2).1
      have hld := cload_any hT3.l2 (by omega) bc hbc3 a8 s.img.length c8 h9.2.1 (Nat.le_trans h9.2.2 (by decide)) s.img h9.1 i4
      have HT3 := hid_of hT3
      have HI4 := hid_of i4
      clear him ho8 hx3 hT3 h9 hbc3 HTW
      go_wp2_with fail
      refine hld.mono ?_
      rintro e V4 ⟨q, w', P3, g3, rfl, hsr, hL4⟩
      dsimp only
      obtain ⟨P4, hT4⟩ := HT3.out.swap.step hL4
      have hdl := dec_load (xs := s.img) HI4.out
      obtain ⟨f0, tf, f1, f2⟩ := fresh_load (w := Sv.zero) (w' := w') (by rw [hdl]) (by rw [hdl]) hsr (p := t.p) (by rw [hdl]; exact HI.out.1) (by rw [hdl]; exact HI.out.2.1) HI.out.2.2
      have hsf : SvF w' := svR.fst HT3.out.l2.inv (fun t h => by cases h) hsr
      rw [f0]
      have HP0 : Hid (p9F B1 V2 bs bf M (1010 + 5120 * ((0 : Nat) : Int)) s m 0 0 V4) := by
        refine ⟨w', _, _, _, _, _, tf, hT4.swap.le (Int.le_refl _) (by omega), hsf, f1, ?_, FrI.zero m⟩
        rw [HAT.out.2.p] at f2
        exact f2
      clear hld hsr hL4 hT4 hdl f0 f1 f2 hsf HT3 HI HI4 i4
      go_upto_region 17 with fail
      refine wp_loop_f 100 (p9L2 B1 V2 bs bm bf bc M s m fn) (fun f _ => fn - (intOf (f 9)).toNat) rfl ⟨0, by omega, ⟨rfl, rfl, rfl, rfl, rfl⟩, HP0⟩ ?_
      clear HP0
      intro G V5 hrel
      obtain ⟨p, hp, ⟨f3, f4, f7, f8, f9⟩, HP⟩ := hrel
      have H9 := hid_of f9
      rw [zframe100, f3, f4, f7, f8, f9]
      clear f3 f4 f7 f8 f9
      obtain ⟨w5, Q1, Q2, g5, g6, F', tu, hT5, hsf5, hw5, hA5, hF5⟩ := HP.out
      have hbm5 : blk V5 bm = some Ce := (hT5.blk HBM.out.1 HBM.out.2).1
      by_cases hpn : p < fn
      rotate_left 1
      · have hpn' : ¬ (p : Int) < (fn : Int) := by omega
        have hmem := hF5.fin HMI.out (by rw [← HMI.out.len, ← HFN.out]; omega)
        obtain ⟨eu, el⟩ := fresh_end hT5.l1.inv hT5.l2.inv HAT.out.1 hw5 HAT.out.2 hA5 rfl hmem
        have hu1 := inUse_any hT5.l1.sv
        have hu2 := inUse_any hT5.l2.sv
        rw [← eu] at hu2
        have HEL := hid_of el
        obtain ⟨u, euu⟩ : ∃ u, u = inUse s := ⟨_, rfl⟩
        rw [← euu] at hu1 hu2
        have HLE : Hid (∀ r ∈ lsF s, r.length ≤ 1000000000) := fun r hr => Nat.le_trans (lsF_le hT5.l1.inv hr) (by decide)
        have hl1 := listing_any hT5.l1 (by omega)
        have HT5 := hid_of hT5
        clear hmem eu el euu hT5 hsf5 hw5 hA5 hF5 HP
        go_wp2_with fail
        refine hu1.mono ?_
        rintro e V6 ⟨rfl, rfl⟩
        dsimp only
        clear hu1
        go_wp2_with fail
        refine hu2.mono ?_
        rintro e V7 ⟨rfl, rfl⟩
        dsimp only
        clear hu2
        go_wp2_with fail
        refine hl1.mono ?_
        rintro e V8 ⟨la, ln, lc, s', P5, g7, rfl, hln, hln64, -, -, hL6, hLst⟩
        dsimp only
        obtain ⟨P6, hT6⟩ := HT5.out.step hL6
        have hl2 := listing_any hT6.l2 (by omega)
        have HLST := hid_of (hLst.sub hT6.cores)
        have HT6 := hid_of hT6
        have HLN := hid_of hln
        clear hl1 hln hL6 hLst hT6 HT5
        go_wp2_with fail
        refine hl2.mono ?_
        rintro e V9 ⟨la2, ln2, lc2, t', P7, g8, rfl, hln2, -, -, -, hL7, hLst2⟩
        dsimp only
        rw [← HEL.out] at hln2 hLst2
        obtain rfl : ln2 = ln := by rw [hln2, HLN.out]
        obtain ⟨P8, hT8⟩ := HT6.out.swap.step hL7
        have HX7 : Hid (w1.Extends V9) := hT8.swap.ext HX2.out HOLD.out
        have hsl := sameListing_eq V9 la la2 ln2 lc lc2 (lsF s) ((HLST.out.sub hL7.kp.sub).sub (Sub.core _ _)) (hLst2.sub (Sub.core _ _)) (by omega) HLE.out
        clear hl2 hln2 hL7 hLst2 hT8 HT6 HLST HLN
        go_wp2_with fail
        refine hsl.mono ?_
        rintro e V10 ⟨rfl, hx8⟩
        dsimp only
        have HX8 : Hid (w1.Extends V10) := HX7.out.trans hx8
        clear hsl hx8
        go_wp2_with fail
        go_ret
        exact ⟨rfl, HX8.out⟩
      have hpn' : (p : Int) < (fn : Int) := by omega
      have p0 : (0 : Int) ≤ (p : Int) := by omega
      have p2 : ((p : Int)).toNat = p := by omega
      have hplt : p < m.p.preds.length := by rw [← HMI.out.len, ← HFN.out]; exact hpn
      have hFq : m.F[p]? = some (m.F.getD p []) := by rw [List.getD_eq_getElem?_getD, List.getElem?_eq_getElem (by rw [← HFN.out]; exact hpn)]; rfl
      obtain ⟨bq, Cq, sq, rfl, y1, y2, y3, y4⟩ := HFC.out.at hFq
      obtain ⟨ya, yn, yc⟩ := sq
      dsimp only at y3 y4
      obtain ⟨y5, y6⟩ := core_blk y1
      have y1' : blk V5 bq = some Cq := (hT5.blk y5 y6).1
      obtain ⟨Ls, eLs⟩ : ∃ Ls, Ls = m.F.getD p [] := ⟨_, rfl⟩
      rw [← eLs] at y4
      obtain ⟨K0, w1', w2, w3⟩ := y4
      have hyb : yn ≤ 512 := by rw [← w2, eLs]; exact HMI.out.cap _ (List.mem_of_getElem? hFq)
      obtain ⟨ar, ear⟩ : ∃ ar, ar = arP m.p p := ⟨_, rfl⟩
      have har4 : ar ≤ 4 := by rw [ear]; exact ar4 HMI.out.pg.g.pok p
      have hrow : ∀ r ∈ Ls, r.length = ar ∧ (pI m.p p).base = true ∧ ∀ x ∈ r, x.length ≤ 64 := fun r hr => by
        rw [ear]; exact HMI.out.row p r (by unfold memN; rw [← eLs]; exact hr)
      obtain ⟨L0, eL0⟩ : ∃ L0 : List RD, L0 = List.zip K0 Ls := ⟨_, rfl⟩
      have hK0 : K0.length = yn := w1'.1
      have e1 : L0.map (·.1) = K0 := by rw [eL0, List.map_fst_zip (by omega)]
      have e2 : L0.map (·.2) = Ls := by rw [eL0, List.map_snd_zip (by omega)]
      have hL0n : L0.length = yn := by rw [eL0, List.length_zip]; omega
      have hcs : Sub (core B1 V2) (core Q1 V5) := hT5.sub
      have hL0 : ∀ x ∈ L0, x.1.len = ar ∧ Rw encS 1 (core Q1 V5) x.1.a x.1.len x.2 := fun x hx => by
        obtain ⟨j, hj⟩ := List.mem_iff_getElem?.1 hx
        rw [eL0, List.getElem?_zip_eq_some] at hj
        have h9 := w3 j x.1 x.2 hj.1 hj.2
        exact ⟨h9.1.symm.trans (hrow x.2 (List.mem_of_getElem? hj.2)).1, h9.sub hcs⟩
      have hso := sorted_any V5 ya yn yc ar L0 (by omega) (by rw [e1]; exact (w1'.sub hcs).sub (Sub.core _ _)) (fun x hx => ⟨(hL0 x hx).1, (hL0 x hx).2.sub (Sub.core _ _)⟩) (by omega)
      unfold SoPost at hso
      rw [hL0n] at hso
      have HL0 := hid_of hL0
      have HE2 : Hid (L0.map (·.2) = m.F.getD p []) := e2.trans eLs
      have HROW : Hid (∀ r ∈ m.F.getD p [], r.length = ar ∧ (pI m.p p).base = true ∧ ∀ x ∈ r, x.length ≤ 64) := by rw [← eLs]; exact hrow
      have HT5 := hid_of hT5
      have HP5 : Hid (SvF w5 ∧ w5.inst = some tu ∧ AgT tu ⟨true, m.p, F'⟩ ∧ FrI m p 0 F') := ⟨hsf5, hw5, hA5, hF5⟩
      have HAR := hid_of ear
      clear y1 y5 y6 w1' w2 w3 hFq eLs hrow eL0 hK0 e1 e2 hL0n hcs hL0 hT5 hsf5 hw5 hA5 hF5 ear HP
      go_wp2_with fail
      refine hso.mono ?_
      rintro e V6 ⟨sa, sc, O6, rfl, hS6⟩
      dsimp only
      have hx6 := hS6.ext
      obtain ⟨R1, hT6⟩ := HT5.out.step (HT5.out.l1.grow hx6)
      obtain ⟨Z, eZ⟩ : ∃ Z, Z = zisF L0 := ⟨_, rfl⟩
      have hzz : Z.map (·.2) = zsR (m.F.getD p []) := by rw [eZ, zisF_snd, HE2.out]
      have hZn : Z.length = yn := by rw [eZ]; exact hS6.n
      obtain ⟨Q6, eQ6⟩ : ∃ Q6, Q6 = lab Q1 V5.heap.size .no := ⟨_, rfl⟩
      rw [← eQ6] at hT6
      have hZr : Rw encR 1 (core Q6 V6) sa yn (Z.map (·.1)) := by
        rw [eZ]
        refine (hS6.row.rw encR_len).1.tocore (fun b C e _ => ?_)
        have h9 := (row_at hS6.row.1 b (by rw [e]; rfl)).1
        rw [eQ6]; exact lab_ge h9
      have hZx : ∀ x ∈ Z, x.1.len = ar ∧ Rw encS 1 (core Q6 V6) x.1.a x.1.len x.2 := fun x hx => by
        have h9 := HL0.out x (zisF_mem (by rw [← eZ]; exact hx))
        rw [eQ6]; exact ⟨h9.1, h9.2.sub (core_grow hx6)⟩
      have HZR := hid_of hZr
      have HZX := hid_of hZx
      have HZZ := hid_of hzz
      have HZN := hid_of hZn
      have HT6 := hid_of hT6
      have HP0 : Hid (p9F Q6 V6 bs bf M (1010 + 5120 * (p : Int) + 10 * ((0 : Nat) : Int)) s m p 0 V6) := ⟨w5, _, _, _, _, F', tu, hT6.self.le (Int.le_refl _) (by omega), HP5.out.1, HP5.out.2.1, HP5.out.2.2.1, HP5.out.2.2.2⟩
      have hbc6 : blk V6 bc = some (clE bf) ∧ Q6 bc = .no := hT6.blk HBC.out.1 HBC.out.2
      have HBC6 := hid_of hbc6
      clear hso hS6 hx6 eZ hzz hZn eQ6 hZr hZx hT6 HL0 HE2 HT5 HP5 hbm5 y1' hbc6
      go_upto_region 21 with fail
      refine wp_loop_f 100 (p9L3 Q6 V6 bs bm bf bc M s m p sa yn sc) (fun f _ => yn - (intOf (f 11)).toNat) rfl ⟨⟨rfl, rfl, rfl, rfl, rfl⟩, rfl, 0, by omega, rfl, HP0⟩ ?_
      clear HP0
      intro G3 V7 hrel
      obtain ⟨⟨f3, f4, f7, f8, f9⟩, f10, j, hj, f11, HP7⟩ := hrel
      have H11 := hid_of f11
      rw [zframe100, f3, f4, f7, f8, f9, f10, f11]
      clear f3 f4 f7 f8 f9 f10 f11
      obtain ⟨w7, Q7, Q8, g7, g8, F7, t7, hT7, hsf7, hw7, hA7, hF7⟩ := HP7.out
      by_cases hjn : j < yn
      rotate_left 1
      · have hjn' : ¬ (j : Int) < (yn : Int) := by omega
        have hzl : (zsR (m.F.getD p [])).length = yn := by rw [← HZZ.out, List.length_map]; exact HZN.out
        have HPN : Hid (p9F B1 V2 bs bf M (1010 + 5120 * ((p + 1 : Nat) : Int)) s m (p + 1) 0 V7) := ⟨w7, _, _, _, _, F7, t7, (HT6.out.via hT7).le (Int.le_refl _) (by omega), hsf7, hw7, hA7, hF7.next HMI.out (by omega) (fun r hr => by rw [← HAR.out]; exact (HROW.out r hr).1)⟩
        clear hT7 hsf7 hw7 hA7 hF7 hzl HP7
        go_wp2_with fail
        refine ⟨rfl, rfl, ⟨p + 1, by omega, ⟨rfl, rfl, rfl, rfl, ?_⟩, HPN⟩, ?_⟩
        · show Value.int .i64 _ = _
          go_num
        · show fn - (intOf (Value.int .i64 _)).toNat < fn - (intOf (G 9)).toNat
          rw [H9.out]
          simp [intOf]; omega
      have hjn' : (j : Int) < (yn : Int) := by omega
      have j0 : (0 : Int) ≤ (j : Int) := by omega
      have jj2 : ((j : Int)).toNat = j := by omega
      obtain ⟨x, hx⟩ : ∃ x, Z[j]? = some x := ⟨_, List.getElem?_eq_getElem (by have := HZN.out; omega)⟩
      obtain ⟨bk, Ck, rfl, z1, z2, z3⟩ := HZR.out.2 j x.1 (by rw [List.getElem?_map, hx]; rfl)
      have z4 : nth Ck j = some (.slice x.1.a x.1.len x.1.cap) := by
        have h8 := nth_in (j := 0) z3 (show nth (encR x.1) 0 = some (Sl.val x.1) from rfl) (by omega)
        rw [Nat.mul_one, Nat.add_zero] at h8
        exact h8
      have z5 : j < Ck.length := by omega
      obtain ⟨z6, z7⟩ := core_blk z1
      have hbk7 : blk V7 bk = some Ck := (hT7.blk z6 z7).1
      obtain ⟨hxl, hxr⟩ := HZX.out x (List.mem_of_getElem? hx)
      have hrz : (zsR (m.F.getD p []))[j]? = some x.2 := by rw [← HZZ.out, List.getElem?_map, hx]; rfl
      have hrin : x.2 ∈ m.F.getD p [] := by
        have h9 := (zsR_strict (n := ar) (fun r hr => (HROW.out r hr).1) (HMI.out.nd p)).1
        exact h9.mem_iff.1 (List.mem_of_getElem? hrz)
      obtain ⟨r1, r2, r3⟩ := HROW.out x.2 hrin
      have hbc7 : blk V7 bc = some (clE bf) := (hT7.blk HBC6.out.1 HBC6.out.2).1
      have hins := cinsert_any hT7.l2 (by omega) bc hbc7 p (by omega) x.1.a x.1.len x.1.cap x.2 ((hxr.sub hT7.sub).sub (Sub.core _ _)) (by omega) r3
      obtain ⟨st1, st2⟩ := hF7.step HMI.out (by rw [← HMI.out.len, ← HFN.out]; exact hpn) (fun r hr => by rw [← HAR.out]; exact (HROW.out r hr).1) hrz
      have hcu : cuF m.p p x.2.length = 0 := by
        unfold cuF
        have hpl : p < m.p.preds.length := by rw [← HMI.out.len, ← HFN.out]; exact hpn
        rw [if_neg (by omega), if_neg (by rw [r2]; decide), if_neg]
        rw [r1, HAR.out, (pI_ar HMI.out.pg.g.pok hpl).1]
        exact fun e => e rfl
      have HFI : Hid (∀ q w'', svR w7 ([1, UInt8.ofNat 2, UInt8.ofNat ((encF p x.2).length / 256), UInt8.ofNat (encF p x.2).length] ++ encF p x.2) q w'' → (q.code = 16 ∨ (q.code = 0 ∧ ∃ t', w''.inst = some t' ∧ AgT t' ⟨true, m.p, addRN F7 p x.2⟩)) ∧ SvF w'') := fun q w'' hv => by
        have hd := dec_ins (pr := p) (args := x.2) (by omega) (by omega) r3
        exact ⟨fresh_ins hT7.l2.inv hsf7 hw7 hA7 (by rw [hd]) (by rw [hd]) (by rw [hd]) r3 hcu st1 hv, svR.fst hT7.l2.inv hsf7 hv⟩
      have HST2 := hid_of st2
      have HT7 := hid_of hT7
      obtain ⟨xd, exd⟩ : ∃ xd : Sl, xd = x.1 := ⟨_, rfl⟩
      rw [← exd] at z4 hins
      obtain ⟨xa7, xn7, xc7⟩ := xd
      dsimp only at z4 hins
      have HXZ : Hid (x = x) := rfl
      clear hx z1 z2 z3 z6 z7 hxl hxr hrz hrin r1 r2 r3 hbc7 st1 st2 hcu hT7 hsf7 hw7 hA7 hF7 HP7 exd
      go_wp2_with fail
      refine hins.mono ?_
      rintro e V8 ⟨O8, V8', hx8, hLx, q, w8, P8, g9, rfl, hsr8, hL8⟩
      dsimp only
      obtain ⟨k1, k2⟩ := HFI.out q w8 hsr8
      obtain ⟨R7, hT8a⟩ := HT7.out.swap.step hLx
      obtain ⟨R8, hT8⟩ := hT8a.step hL8
      have HT8 := hid_of hT8.swap
      clear hins hLx hsr8 hL8 hT8a hT8 HFI
      rcases k1 with k1 | ⟨k1, t8, k3, k4⟩
      · rw [k1]
        have HXE : Hid (w1.Extends V8) := (HT6.out.via HT8.out).ext HX2.out HOLD.out
        go_wp2_with fail
        go_ret
        exact ⟨rfl, HXE.out⟩
      · rw [k1]
        have HPN : Hid (p9F Q6 V6 bs bf M (1010 + 5120 * (p : Int) + 10 * ((j + 1 : Nat) : Int)) s m p (j + 1) V8) := ⟨w8, _, _, _, _, _, t8, HT8.out.le (Int.le_refl _) (by omega), k2, k3, k4, HST2.out⟩
        clear k1 k2 k3 k4
        go_wp2_with fail
        refine ⟨rfl, rfl, ⟨⟨rfl, rfl, rfl, rfl, rfl⟩, rfl, j + 1, by omega, ?_, HPN⟩, ?_⟩
        · show Value.int .i64 _ = _
          go_num
        · show yn - (intOf (Value.int .i64 _)).toNat < yn - (intOf (G3 11)).toNat
          rw [H11.out]
          simp [intOf]; omega
  have hin' : (i : Int) < (N : Int) := by omega
  have i0 : (0 : Int) ≤ (i : Int) := by omega
  have i2 : ((i : Int)).toNat = i := by omega
  obtain ⟨x, raw, br, CR, rfl, hbr, hobr, hcl, hnr, hrl, hdx⟩ := HBEG.out.at hin
  have hbrV := (hJM.ls.blk hbr hobr).1
  have HBR : Hid (blk W1 br = some CR ∧ Ob br = .no) := ⟨hbr, hobr⟩
  have HDX := hid_of hdx
  have HRL := hid_of hrl
  have hser := HJM.out.ls.serve (by omega) x raw (hdx.sub HJM.out.ls.sub) hrl
  obtain ⟨xa, xn, xc⟩ := x
  dsimp only at hnr hser
  have hil : i < CR.length := by omega
  clear hbr hobr hdx hrl hJM hcl
  go_wp2_with fail
  refine hser.mono ?_
  rintro e V2 ⟨ra, rn, rc, q, s', O', g', rfl, hsr, hRB, hK, hL2, hBs, hrc1, hrc2⟩
  dsimp only
  have hbr2 : blk V2 br = some CR := (hL2.blk HBR.out.1 HBR.out.2).1
  have hmod := HJM.out.model HRL.out hsr hK hL2 ⟨xa, xn, xc⟩ ((HDX.out.sub hL2.sub).sub (Sub.core _ _))
  dsimp only at hmod
  have HSR := hid_of hsr
  clear hser hsr hRB hK hL2 hBs hrc1 hrc2 hbrV
  go_wp2_with fail
  refine hmod.mono ?_
  rintro e V3 ⟨a3, n3, c3, m', O2, rfl, hJ2, hMv, hn3, hB3, hsub⟩
  dsimp only
  have HJN : Hid (∃ s m O g, JM Ob W1 bs bm (1000 + 10 * ((i + 1 : Nat) : Int)) s m O g V3 ∧ ImgI s) := by
    refine ⟨s', m', O2, g', ?_, imgI_step HJM.out.ag hJ2.ag HRL.out HSR.out hMv HIM.out⟩
    rw [show (1000 : Int) + 10 * ((i + 1 : Nat) : Int) = 1000 + 10 * (i : Int) + 10 from by omega]
    exact hJ2
  clear hmod hJ2 hMv hn3 hB3 hsub
  go_wp2_with fail
  refine ⟨rfl, rfl, ⟨rfl, rfl, rfl, i + 1, by omega, ?_, HJN⟩, ?_⟩
  · show Value.int .i64 _ = _
    go_num
  · show N - (intOf (Value.int .i64 _)).toNat < N - (intOf (F 6)).toNat
    rw [H6.out]
    simp [intOf]; omega
end Go.Proofs.Qxb6500787aGreat
