import Derived.Test.Qxb6500787aYe
import Derived.Test.Qxb6500787aYb
import Derived.StillTailTactics
import Derived.Deep.QuietTactic
import Derived.BigQuiet
import Derived.Deep.RegionHeld
import Derived.Deep.CutRange
import Derived.Laws.ResultCell
import Derived.Laws.Rows
import Derived.DeepKeys
import Derived.DataBytes
import Derived.Laws.StructEq
import Derived.Laws.AppendOwn
import Derived.Laws.MakeOwn
import Derived.Lib.AppendStr
set_option linter.unusedSimpArgs false
set_option linter.unusedVariables false
namespace Go.Proofs.Qxb6500787a
open Go.RowKit Go.Blk
attribute [local go_sem ↓] execOp_load execOp_store execOp_alloc
attribute [local go_sem] Try.ld26 Try.st26 Try.ld27 Try.st27 Try.ld28 Try.st28 Try.ld3 Try.st3 Try.ld29 Try.st29 Try.ld44 Try.st44 Try.ld4 Try.st4 Try.ld50 Try.st50 Try.ld32 Try.st32 Try.ld49 Try.st49 Try.ld68 Try.st68 Try.ld9 Try.st9 Try.ld40 Try.st40 Try.ld138 Try.st138 Try.ld139 Try.st139 Try.ld146 Try.st146 Try.ld183 Try.st183 Try.ld184 Try.st184 Try.ld192 Try.st192 Try.ld195 Try.st195 Try.ld217 Try.st217 Try.ld159 Try.st159 Try.ld142 Try.st142 Try.ld2 Try.st2 Try.ld5 Try.st5 Try.ld12 Try.st12 Try.ld21 Try.st21 Try.ld22 Try.st22 Try.ld24 Try.st24 Try.ld58 Try.st58 Try.ld63 Try.st63 Try.ld97 Try.st97 Try.ld101 Try.st101 Try.ld116 Try.st116 Try.ld121 Try.st121 Try.ld135 Try.st135 Try.ld136 Try.st136 Try.ld143 Try.st143 Try.ld148 Try.st148 Try.ld154 Try.st154 Try.ld173 Try.st173 Try.ld187 Try.st187 Try.ld222 Try.st222 Try.ld241 Try.st241 Try.ld248 Try.st248 Try.ld268 Try.st268 Try.ld272 Try.st272 Try.ld153 Try.st153 Try.ld255 Try.st255 Try.ld256 Try.st256 Try.ld129 Try.st129 Try.ld152 Try.st152 Try.ld31 Try.st31 Try.ld46 Try.st46 Try.ld52 Try.st52 Try.ld54 Try.st54 Try.ld60 Try.st60 Try.ld70 Try.st70 Try.ld74 Try.st74 Try.ld93 Try.st93 Try.ld119 Try.st119 Try.ld141 Try.st141 Try.ld151 Try.st151 Try.ld170 Try.st170 Try.ld186 Try.st186 Try.ld189 Try.st189 Try.ld194 Try.st194 Try.ld197 Try.st197 Try.ld219 Try.st219 Try.ld224 Try.st224 Try.ld230 Try.st230 Try.ld235 Try.st235 Try.ld243 Try.st243 Try.ld247 Try.st247 Try.ld252 Try.st252 Try.ld258 Try.st258 Try.al153 Try.al255 Try.al256 Try.al129 Try.al152 Try.al31 Try.al46 Try.al52 Try.al54 Try.al60 Try.al70 Try.al74 Try.al93 Try.al119 Try.al141 Try.al151 Try.al170 Try.al186 Try.al189 Try.al194 Try.al197 Try.al219 Try.al224 Try.al230 Try.al235 Try.al243 Try.al247 Try.al252 Try.al258
attribute [local go_sem] Request.length_enc Request.ok_enc Request.all_get Request.all_set Request.kind_get Request.kind_set Request.blob_get Request.blob_set Request.items_get Request.items_set Request.pred_get Request.pred_set Request.slots_get Request.slots_set Trace.length_enc Trace.ok_enc Trace.all_get Trace.all_set Trace.op_get Trace.op_set Trace.calls_get Trace.calls_set Item.length_enc Item.ok_enc Item.all_get Item.all_set Item.del_get Item.del_set Item.pred_get Item.pred_set Item.args_get Item.args_set Reply.length_enc Reply.ok_enc Reply.all_get Reply.all_set Reply.code_get Reply.code_set Reply.kind_get Reply.kind_set Reply.index_get Reply.index_set Reply.yes_get Reply.yes_set Reply.preds_get Reply.preds_set Reply.rules_get Reply.rules_set Reply.arity_get Reply.arity_set Reply.rows_get Reply.rows_set Reply.fact_get Reply.fact_set Reply.fact_del_get Reply.fact_del_set Reply.fact_pred_get Reply.fact_pred_set Reply.fact_args_get Reply.fact_args_set GEntry.length_enc GEntry.ok_enc GEntry.all_get GEntry.all_set GEntry.seq_get GEntry.seq_set GEntry.kind_get GEntry.kind_set GEntry.code_get GEntry.code_set GOp.length_enc GOp.ok_enc GOp.all_get GOp.all_set GOp.kind_get GOp.kind_set GOp.raw_get GOp.raw_set Reader.length_enc Reader.ok_enc Reader.all_get Reader.all_set Reader.buf_get Reader.buf_set Reader.at__get Reader.at__set Slot.length_enc Slot.ok_enc Slot.all_get Slot.all_set Slot.bound_get Slot.bound_set Slot.name_get Slot.name_set Session.length_enc Session.ok_enc Session.all_get Session.all_set Session.svc_get Session.svc_set Session.buf_get Session.buf_set Session.closed_get Session.closed_set GProgram.length_enc GProgram.ok_enc GProgram.all_get GProgram.all_set GProgram.pool_get GProgram.pool_set GProgram.preds_get GProgram.preds_set GProgram.rules_get GProgram.rules_set GProgram.strata_get GProgram.strata_set PredInfo.length_enc PredInfo.ok_enc PredInfo.all_get PredInfo.all_set PredInfo.arity_get PredInfo.arity_set PredInfo.base_get PredInfo.base_set PredInfo.stratum_get PredInfo.stratum_set Change.length_enc Change.ok_enc Change.all_get Change.all_set Change.del_get Change.del_set Change.pred_get Change.pred_set Change.t_get Change.t_set Store.length_enc Store.ok_enc Store.all_get Store.all_set Store.names_get Store.names_set Store.arity_get Store.arity_set Store.rows_get Store.rows_set Src.length_enc Src.ok_enc Src.all_get Src.all_set Src.b_get Src.b_set Src.at__get Src.at__set Atom.length_enc Atom.ok_enc Atom.all_get Atom.all_set Atom.pred_get Atom.pred_set Atom.args_get Atom.args_set GRule.length_enc GRule.ok_enc GRule.all_get GRule.all_set GRule.head_get GRule.head_set GRule.body_get GRule.body_set GRule.head_pred_get GRule.head_pred_set GRule.head_args_get GRule.head_args_set Cert.length_enc Cert.ok_enc Cert.all_get Cert.all_set Cert.names_get Cert.names_set Cert.nodes_get Cert.nodes_set Fact.length_enc Fact.ok_enc Fact.all_get Fact.all_set Fact.pred_get Fact.pred_set Fact.t_get Fact.t_set Literal.length_enc Literal.ok_enc Literal.all_get Literal.all_set Literal.neg_get Literal.neg_set Literal.atom_get Literal.atom_set Literal.atom_pred_get Literal.atom_pred_set Literal.atom_args_get Literal.atom_args_set Engine.length_enc Engine.ok_enc Engine.all_get Engine.all_set Engine.prog_get Engine.prog_set Engine.st_get Engine.st_set SrcCertm.length_enc SrcCertm.ok_enc SrcCertm.all_get SrcCertm.all_set SrcCertm.b_get SrcCertm.b_set SrcCertm.at__get SrcCertm.at__set GNode.length_enc GNode.ok_enc GNode.all_get GNode.all_set GNode.rule_get GNode.rule_set GNode.pred_get GNode.pred_set GNode.vals_get GNode.vals_set GNode.refs_get GNode.refs_set Term.length_enc Term.ok_enc Term.all_get Term.all_set Term.var_get Term.var_set Term.n_get Term.n_set Env.length_enc Env.ok_enc Env.all_get Env.all_set Env.val_get Env.val_set Env.set_get Env.set_set
attribute [local go_sem] size_put size_ext blk_put free_put blk_alloc free_alloc blk_drew free_drew blk_ext free_ext lookOr_some putOr_some segAt_some cellAt_some storeIn_some put_put put_alloc_new length_arr ok_arr_u8 ok_arr_u32 ok_arr_u64 ok_arr_i64 ok_arr_sl cellsV_agg cellsV_int cellsV_bool cellsV_string cellsV_pointer cellsV_slice cellsV_sl ok_int ok_bool ok_string ok_pointer ok_slice ok_sl toList_arr seg_arr set_arr nth_splice nth_splice0 seg_splice seg_splice0 splice_splice splice_splice0 length_splice_if
attribute [local go_sem ↓] execOp_box
attribute [local go_sem] box_run nth_arr_u8 put_arr_u8 blk_drewN free_drewN put_drewN blk_raw free_raw
theorem ent_at {W : World} {a : Option Addr} {n : Nat} {L : List GEntry} (h : Rw GEntry.enc 3 W a n L) {i : Nat} {x : GEntry} (hx : L[i]? = some x) : ∃ b C, a = some ⟨b, 0, none⟩ ∧ blk W b = some C ∧ i * 3 + 3 ≤ C.length ∧ i < n ∧ seg C (i * 3) 3 = GEntry.enc x := by
  obtain ⟨b, C, h1, h2, h3, h4⟩ := h.2 i x hx
  have hi : i < n := by rw [← h.1]; exact (List.getElem?_eq_some_iff.1 hx).1
  have : (i + 1) * 3 ≤ n * 3 := Nat.mul_le_mul_right _ hi
  exact ⟨b, C, h1, h2, by omega, hi, h4⟩
/-- Law 7's loop. -/
structure A7 (Ob : Own) (Wb : World) (bs i : Nat) (aa : Option Addr) (cc : Nat) (s : Sv) (O : Own) (g : Nat) (K : List GEntry) (V : World) : Prop where
  ls : LS Ob Wb bs (1000 + 10 * (i : Int)) s O g V
  row : RowL Wb.heap.size O (.a 5 7) V 60 3 (.slice aa i cc) K.length (K.flatMap GEntry.enc)
  len : K.length = i
  tr : Trl s.rst K
  bd : ∀ x ∈ K, 1 ≤ x.seq ∧ x.seq ≤ 1000000 ∧ (0 ≤ x.kind ∧ x.kind < 8) ∧ 0 ≤ x.code ∧ x.code < 43
def a7I (Ob : Own) (Wb : World) (bs : Nat) (A : Option Addr) (N Cp : Nat) (f : Nat → Value) (V : World) : Prop := f 3 = .pointer (some ⟨bs, 0, none⟩) ∧ f 4 = .slice A N Cp ∧ ∃ (i : Nat) (aa : Option Addr) (cc : Nat), i ≤ N ∧ f 5 = .slice aa i cc ∧ f 6 = .int .i64 (i : Nat) ∧ Hid (∃ s O g K, A7 Ob Wb bs i aa cc s O g K V)
def a72I (bs : Nat) (A : Option Addr) (N Cp : Nat) (a5 : Option Addr) (c5 lo : Nat) (aG : Option Addr) (m cG i : Nat) (V6 : World) (f : Nat → Value) (V : World) : Prop := f 3 = .pointer (some ⟨bs, 0, none⟩) ∧ f 4 = .slice A N Cp ∧ f 5 = .slice a5 (i + 1) c5 ∧ f 6 = .int .i64 (i : Nat) ∧ f 8 = .int .i64 (lo : Nat) ∧ f 9 = .slice aG m cG ∧ ∃ k : Nat, k ≤ m ∧ f 10 = .int .i64 (k : Nat) ∧ Hid (V6.Extends V)
attribute [local go_sem] rq_all rq_ok rq_put
attribute [local go_sem ↓] execOp_bslice execOp_build execOp_neq60
attribute [local go_sem] bslice58 build60 neq60
set_option maxRecDepth 100000 in
theorem frame84a (f : Nat → Value) : frameN 84 f = #[f 0, f 1, f 2, f 3, f 4, f 5, f 6, f 7, f 8, f 9, f 10, f 11, f 12, f 13, f 14, f 15, f 16, f 17, f 18, f 19, f 20, f 21, f 22, f 23, f 24, f 25, f 26, f 27, f 28, f 29, f 30, f 31, f 32, f 33, f 34, f 35, f 36, f 37, f 38, f 39, f 40, f 41, f 42, f 43, f 44, f 45, f 46, f 47, f 48, f 49, f 50, f 51, f 52, f 53, f 54, f 55, f 56, f 57, f 58, f 59, f 60, f 61, f 62, f 63, f 64, f 65, f 66, f 67, f 68, f 69, f 70, f 71, f 72, f 73, f 74, f 75, f 76, f 77, f 78, f 79, f 80, f 81, f 82, f 83] := by kernel_rfl
set_option maxRecDepth 40000 in
set_option maxHeartbeats 2000000 in
theorem audit_walk (w : World) (a : Option Addr) (len cap : Nat) (g : Nat → GOp) (dt : Nat → List UInt8) (hS : ScriptAt w a len cap g dt) : Calls Try.prog 7 #[.slice a len cap] w fun e w' => e = .returned (.bool true) ∧ w.Extends w' := by
  have HS : Hid (ScriptAt w a len cap g dt) := hS
  have hS0 := hS
  clear hS
  go_enter Try.func7, Try.ntmps7
  go_wp2_with fail
  refine (small_any w a len cap g dt hS0).mono ?_
  rintro e w1 ⟨⟨r, rfl, hr⟩, rfl⟩
  clear hS0
  dsimp only
  cases r
  · go_wp2_with fail
    go_ret
    exact ⟨rfl, ext_Ext (Ext.refl _)⟩
  obtain ⟨hlen, hsz⟩ := hr rfl
  have HSZ : Hid (∀ i, i < len → (g i).raw.len ≤ 65536) := hsz
  clear hr hsz
  go_wp2_with fail
  refine (new_any w1).mono ?_
  rintro e w2 ⟨rfl, e2⟩
  dsimp only
  have HS2 : Hid (ScriptAt w2 a len cap g dt) := by
    show ScriptAt _ _ _ _ _ _
    rw [e2]
    exact HS.out.mono (extends_alloc (ext_Ext (Ext.refl _)) _)
  have HE2 := hid_of e2
  clear e2
  go_wp2_with fail
  refine (sends_any w2 a len cap g dt HS2.out hlen).mono ?_
  rintro e W1 ⟨A, N, Cp, L, rfl, hat⟩
  dsimp only
  rw [HE2.out] at hat
  have hbeg := beg_of HS.out hlen HSZ.out hat
  obtain ⟨bs, ebs⟩ : ∃ bs, bs = w1.heap.size := ⟨_, rfl⟩
  rw [← ebs] at hbeg ⊢
  obtain ⟨Ob, hOb⟩ : ∃ Ob, Ob = lab (lab (fun _ => Lab.no) bs (.a 0 0)) (bs + 1) .no := ⟨_, rfl⟩
  rw [← hOb] at hbeg
  have HBEG := hid_of hbeg
  have H57 : Hid (∀ k, k < W1.heap.size → ¬ ∃ j, Ob k = .a 5 j) := fun k _ => by
    rintro ⟨j, e⟩
    rw [hOb] at e
    by_cases h1 : k < bs + 1
    · rw [lab_lt h1] at e
      by_cases h2 : k < bs
      · rw [lab_lt h2] at e; cases e
      · rw [lab_ge (by omega)] at e; have := (Lab.a.inj e).1; omega
    · rw [lab_ge (by omega)] at e; cases e
  have hN : N ≤ 65536 := hbeg.nn
  clear hat hbeg ebs hOb HS2 HE2 HSZ
  go_upto_region 7 with fail
  refine wp_loop_f 84 (a7I Ob W1 bs A N Cp) (fun f _ => N - (intOf (f 6)).toNat) rfl ⟨rfl, rfl, 0, none, 0, by omega, rfl, rfl, ⟨Sv.zero, Ob, 0, [], HBEG.out.ls, RowL.nil _ _ _ _ _ _, rfl, Trl.zero, fun x h => by cases h⟩⟩ ?_
  intro F V hrel
  obtain ⟨f3, f4, i, aa, cc, hi, f5, f6, HJ⟩ := hrel
  have H6 := hid_of f6
  rw [frame84a, f3, f4, f5, f6]
  clear f3 f4 f5 f6
  obtain ⟨s, O, g0, K, hA7⟩ := HJ.out
  have HA := hid_of hA7
  have hLS := hA7.ls
  clear HJ hA7
  by_cases hin : i < N
  rotate_left 1
  · have hin' : ¬ (i : Int) < (N : Int) := by omega
    have HX := hid_of (kp_ext hLS.kp HBEG.out.ex HBEG.out.old)
    clear hLS
    go_wp2_with fail
    go_ret
    exact ⟨rfl, HX.out⟩
  have hin' : (i : Int) < (N : Int) := by omega
  have i0 : (0 : Int) ≤ (i : Int) := by omega
  have i2 : ((i : Int)).toNat = i := by omega
  obtain ⟨x, raw, br, CR, rfl, hbr, hobr, hcl, hnr, hrl, hdx⟩ := HBEG.out.at hin
  obtain ⟨hbrV, hobV⟩ := hLS.blk hbr hobr
  have HRL := hid_of hrl
  have hsv := hLS.serve (by omega) x raw (hdx.sub hLS.sub) hrl
  have HIV := hid_of hLS.inv
  obtain ⟨xa, xn, xc⟩ := x
  dsimp only at hnr hsv
  clear hLS hbr hobr hdx hrl hobV
  go_wp2_with fail
  refine hsv.mono ?_
  rintro e V4 ⟨ra, rn, rc, q, s', O', g', rfl, hsr, hRB, hK, hL4, hBs, hrc1, hrc2⟩
  dsimp only
  have hkc := svR.k (s' := s') HIV.out.ins HRL.out hsr.choose_spec.1
  have HKC : Hid ((0 ≤ q.kind ∧ q.kind < 8) ∧ 0 ≤ q.code ∧ q.code < 43) := ⟨hkc.1, hkc.2.1⟩
  obtain ⟨kd, hkd⟩ : ∃ kd : Nat, q.kind = (kd : Int) := ⟨q.kind.toNat, by have := hkc.1; omega⟩
  obtain ⟨cd, hcd⟩ : ∃ cd : Nat, q.code = (cd : Int) := ⟨q.code.toNat, by have := hkc.2.1; omega⟩
  obtain ⟨rb, ro, RC, rfl, w2c, w3, w4, w5, w6⟩ := rep_two hBs hkd hcd (by have := hkc.1; omega) (by have := hkc.2.1; omega)
  obtain ⟨w2, hrno⟩ := core_blk w2c
  have hwc : IntKind.i64.wrap (cd : Int) = (cd : Int) := by
    have h1 := hkc.2.1
    rw [hcd] at h1
    rw [IntKind.wrap_i64]; omega
  have hwk : IntKind.i64.wrap (kd : Int) = (kd : Int) := by
    have h1 := hkc.1
    rw [hkd] at h1
    rw [IntKind.wrap_i64]; omega
  have hwi : IntKind.i64.wrap ((i : Int) + 1) = (i : Int) + 1 := by rw [IntKind.wrap_i64]; omega
  have hR4 := (HA.out.row.kp (.inr ⟨5, 7, rfl, by omega⟩) hK).fr ((Fr.refl (fun _ => False) _ _).drewN 1) (fun e => e)
  have hKL : K.length = i := HA.out.len
  obtain ⟨a5, c5, V5, hrun, hR5, hF5⟩ := appL GEntry.enc 3 24 58 60 el58.und el58.info el58.len el58.one el58.pos el58.small 58 (⟨(i : Int) + 1, (kd : Int), (cd : Int)⟩ : GEntry) hR4 (Nat.le_trans hL4.kp.size (Nat.le_refl _)) (by omega) (GEntry.enc ⟨(i : Int) + 1, (kd : Int), (cd : Int)⟩).toArray rfl 1
  have hrb5 : blk V5 rb = some RC := hF5.blk (W := V4.drewN 1) w2 (by rw [hrno]; exact fun e => by cases e)
  have hal5 : ∀ A, blk ((V4.drewN 1).alloc (.cells A 60)) rb = some RC := fun A => by
    rw [blk_alloc, if_neg (by exact Nat.ne_of_lt (blk_lt w2))]; exact w2
  have HL5 := hid_of ((hL4.drewN 1).fr57 H57.out rfl hF5)
  have HR5 := hid_of hR5
  obtain ⟨K', hK'⟩ : ∃ K', K' = K ++ [(⟨(i : Int) + 1, (kd : Int), (cd : Int)⟩ : GEntry)] := ⟨_, rfl⟩
  have HT5 : Hid (Trl s'.rst K') := by
    have h9 := HA.out.tr.step hsr
    rw [hKL, hkd, hcd] at h9
    rw [hK']; exact h9
  have HBD5 : Hid (∀ x ∈ K', 1 ≤ x.seq ∧ x.seq ≤ 1000000 ∧ (0 ≤ x.kind ∧ x.kind < 8) ∧ 0 ≤ x.code ∧ x.code < 43) := fun x hx => by
    rw [hK'] at hx
    rcases List.mem_append.1 hx with h | h
    · exact HA.out.bd x h
    · rw [List.mem_singleton.1 h]
      have h8 := HKC.out
      rw [hkd, hcd] at h8
      exact ⟨by show (1 : Int) ≤ (i : Int) + 1; omega, by show (i : Int) + 1 ≤ 1000000; omega, h8.1, h8.2⟩
  have HKL : Hid (K'.length = i + 1) := by
    show _ = _
    rw [hK', List.length_append, hKL]; rfl
  rw [← hK'] at HR5
  have h196 : s'.rst 196 = ((i + 1 : Nat) : Int) := by rw [HT5.out.1, HKL.out]
  have hro : ro < RC.length := by omega
  have hro1 : ro + 1 < RC.length := by omega
  have hrn0n : 0 < rn := by omega
  have hrn1n : 1 < rn := by omega
  have hrn0 : (0 : Int) < (rn : Int) := by omega
  have hrn1 : (1 : Int) < (rn : Int) := by omega
  have haud := audit_any HL5.out.sv h196 (by omega)
  obtain ⟨m, hm⟩ : ∃ m, m = min (i + 1) 64 := ⟨_, rfl⟩
  obtain ⟨lo, hlo⟩ : ∃ lo, lo = i + 1 - m := ⟨_, rfl⟩
  have HM : Hid (m = min (i + 1) 64 ∧ lo = i + 1 - m) := ⟨hm, hlo⟩
  have hml : lo + m = i + 1 := by omega
  clear hsv hsr hRB hK hL4 hBs hkc hkd hcd hR4 hKL hR5 hF5 hK' h196 w6 hbrV w2c hrno hrc1 hrc2 HKC HA
  clear hm hlo
  by_cases hbig : 64 < i + 1
  · have hm : m = 64 := by have := HM.out.1; omega
    have hlo : lo = i + 1 - 64 := by omega
    have hb1 : (64 : Int) < ((i + 1 : Nat) : Int) := by omega
    have hb2 : (64 : Int) < (i : Int) + 1 := by omega
    have e8 : (i : Int) + 1 - 64 = (lo : Int) := by omega
    have e56 : (i : Int) + 1 - (lo : Int) = (m : Int) := by omega
    clear hm hlo
    go_upto_region 10 with fail
    refine wp_region_held_drew (S := fun W' => blk W' rb = some RC ∧ True) (by kernel_rfl) ⟨w2, trivial⟩ (fun hHeld => ?_)
    refine wpAnyH_take (i := 0) (oi := ⟨_, _, _, _, _, _⟩) (v := ?_) rfl (by kernel_rfl) (by kernel_rfl) (by kernel_rfl) (fun _ _ _ h => h) (Or.inl ⟨by rfl, ?_⟩) (by assumption) ?_
    rotate_left 1
    · intro W' hSw
      obtain ⟨hS1, hS2⟩ := hSw
      go_simp
      try with_reducible rfl
    try simp only [Act.put, List.setIfInBounds_toArray, List.set_cons_zero, List.set_cons_succ]
    refine wpAnyH_take (i := 1) (oi := ⟨_, _, _, _, _, _⟩) (v := ?_) rfl (by kernel_rfl) (by kernel_rfl) (by kernel_rfl) (fun _ _ _ h => h) (Or.inl ⟨by rfl, ?_⟩) (by assumption) ?_
    rotate_left 1
    · intro W' hSw
      obtain ⟨hS1, hS2⟩ := hSw
      go_simp
      try with_reducible rfl
    try simp only [Act.put, List.setIfInBounds_toArray, List.set_cons_zero, List.set_cons_succ]
    refine wpAnyH_take (i := 2) (oi := ⟨_, _, _, _, _, _⟩) (v := ?_) rfl (by kernel_rfl) (by kernel_rfl) (by kernel_rfl) (fun _ _ _ h => h) (Or.inl ⟨by rfl, ?_⟩) (by assumption) ?_
    rotate_left 1
    · intro W' hSw
      obtain ⟨hS1, hS2⟩ := hSw
      go_simp
      try with_reducible rfl
    try simp only [Act.put, List.setIfInBounds_toArray, List.set_cons_zero, List.set_cons_succ]
    refine wpAnyH_take (i := 3) (oi := ⟨_, _, _, _, _, _⟩) (v := ?_) rfl (by kernel_rfl) (by kernel_rfl) (by kernel_rfl) (fun _ _ _ h => h) (Or.inl ⟨by rfl, ?_⟩) (by assumption) ?_
    rotate_left 1
    · intro W' hSw
      obtain ⟨hS1, hS2⟩ := hSw
      go_simp
      try with_reducible rfl
    try simp only [Act.put, List.setIfInBounds_toArray, List.set_cons_zero, List.set_cons_succ]
    refine wpAnyH_take (i := 4) (oi := ⟨_, _, _, _, _, _⟩) (v := ?_) rfl (by kernel_rfl) (by kernel_rfl) (by kernel_rfl) (fun _ _ _ h => h) (Or.inl ⟨by rfl, ?_⟩) (by assumption) ?_
    rotate_left 1
    · intro W' hSw
      obtain ⟨hS1, hS2⟩ := hSw
      go_simp
      try with_reducible rfl
    try simp only [Act.put, List.setIfInBounds_toArray, List.set_cons_zero, List.set_cons_succ]
    refine wpAnyH_take (i := 5) (oi := ⟨_, _, _, _, _, _⟩) (v := ?_) rfl (by kernel_rfl) (by kernel_rfl) (by kernel_rfl) (fun _ _ _ h => h) (Or.inl ⟨by rfl, ?_⟩) (by assumption) ?_
    rotate_left 1
    · intro W' hSw
      obtain ⟨hS1, hS2⟩ := hSw
      go_simp
      try with_reducible rfl
    try simp only [Act.put, List.setIfInBounds_toArray, List.set_cons_zero, List.set_cons_succ]
    refine wpAnyH_take (i := 6) (oi := ⟨_, _, _, _, _, _⟩) (v := ?_) rfl (by kernel_rfl) (by kernel_rfl) (by kernel_rfl) (fun _ _ _ h => h) (Or.inl ⟨by rfl, ?_⟩) (by assumption) ?_
    rotate_left 1
    · intro W' hSw
      obtain ⟨hS1, hS2⟩ := hSw
      go_simp
      try with_reducible rfl
    try simp only [Act.put, List.setIfInBounds_toArray, List.set_cons_zero, List.set_cons_succ]
    refine wpAnyH_take (i := 7) (oi := ⟨_, _, _, _, _, _⟩) (v := ?_) rfl (by kernel_rfl) (by kernel_rfl) (by kernel_rfl) (fun _ _ _ h => h) (Or.inl ⟨by rfl, ?_⟩) (by assumption) ?_
    rotate_left 1
    · intro W' hSw
      obtain ⟨hS1, hS2⟩ := hSw
      go_simp
      try with_reducible rfl
    try simp only [Act.put, List.setIfInBounds_toArray, List.set_cons_zero, List.set_cons_succ]
    refine wpAnyH_take (i := 8) (oi := ⟨_, _, _, _, _, _⟩) (v := ?_) rfl (by kernel_rfl) (by kernel_rfl) (by kernel_rfl) (fun _ _ _ h => h) (Or.inl ⟨by rfl, ?_⟩) (by assumption) ?_
    rotate_left 1
    · intro W' hSw
      obtain ⟨hS1, hS2⟩ := hSw
      go_simp
      try with_reducible rfl
    try simp only [Act.put, List.setIfInBounds_toArray, List.set_cons_zero, List.set_cons_succ]
    refine wpAnyH_take (i := 9) (oi := ⟨_, _, _, _, _, _⟩) (v := ?_) rfl (by kernel_rfl) (by kernel_rfl) (by kernel_rfl) (fun _ _ _ h => h) (Or.inl ⟨by rfl, ?_⟩) (by assumption) ?_
    rotate_left 1
    · intro W' hSw
      obtain ⟨hS1, hS2⟩ := hSw
      go_simp
      try with_reducible rfl
    try simp only [Act.put, List.setIfInBounds_toArray, List.set_cons_zero, List.set_cons_succ]
    refine wpAnyH_take (i := 10) (oi := ⟨_, _, _, _, _, _⟩) (v := ?_) rfl (by kernel_rfl) (by kernel_rfl) (by kernel_rfl) (fun _ _ _ h => h) (Or.inl ⟨by rfl, ?_⟩) (by assumption) ?_
    rotate_left 1
    · intro W' hSw
      obtain ⟨hS1, hS2⟩ := hSw
      go_simp
      try with_reducible rfl
    try simp only [Act.put, List.setIfInBounds_toArray, List.set_cons_zero, List.set_cons_succ]
    refine wpAnyH_take (i := 11) (oi := ⟨_, _, _, _, _, _⟩) (v := ?_) rfl (by kernel_rfl) (by kernel_rfl) (by kernel_rfl) (fun _ _ _ h => h) (Or.inl ⟨by rfl, ?_⟩) (by assumption) ?_
    rotate_left 1
    · intro W' hSw
      obtain ⟨hS1, hS2⟩ := hSw
      go_simp
      try with_reducible rfl
    try simp only [Act.put, List.setIfInBounds_toArray, List.set_cons_zero, List.set_cons_succ]
    refine wpAnyH_ready (rs := [12]) (by kernel_rfl) (by simp) ?_
    refine AllReadyH.cons (o := ⟨_, _, _, _, _, _⟩) rfl (fun K' hK => ?_) AllReadyH.nil
    go_simp
    refine hK.out _ _ ⟨hal5 _, trivial⟩ (fun hHeld => ?_)
    clear hK K'
    try simp only [Act.put, List.setIfInBounds_toArray, List.set_cons_zero, List.set_cons_succ]
    refine wpAnyH_ready (rs := [13]) (by kernel_rfl) (by simp) ?_
    refine AllReadyH.cons (o := ⟨_, _, _, _, _, _⟩) rfl (fun K' hK => ?_) AllReadyH.nil
    refine wp_append_run _ _ 58 rfl _ _ _ _ rfl rfl hrun ?_
    refine hK.out _ _ ⟨hrb5, trivial⟩ (fun hHeld => ?_)
    clear hK K'
    try simp only [Act.put, List.setIfInBounds_toArray, List.set_cons_zero, List.set_cons_succ]
    refine wpAnyH_take (i := 14) (oi := ⟨_, _, _, _, _, _⟩) (v := ?_) rfl (by kernel_rfl) (by kernel_rfl) (by kernel_rfl) (fun _ _ _ h => h) (Or.inl ⟨by rfl, ?_⟩) (by assumption) ?_
    rotate_left 1
    · intro W' hSw
      obtain ⟨hS1, hS2⟩ := hSw
      go_simp
      try with_reducible rfl
    try simp only [Act.put, List.setIfInBounds_toArray, List.set_cons_zero, List.set_cons_succ]
    refine wpAnyH_done (by kernel_rfl) ?_ _
    clear hHeld hrun
    go_wp2_with fail
    refine haud.mono ?_
    rintro e V6 ⟨aG, cG, rfl, hOG⟩
    dsimp only
    rw [← HM.out.1] at hOG ⊢
    rw [← HM.out.2] at hOG
    try rw [e8]
    have hL6 := HL5.out.grow hOG.2.1
    have hR6 := HR5.out.fr (Fr.grow (L := fun _ => False) hOG.2.1) (fun e => e)
    have HRA : Hid (Rw GEntry.enc 3 V6 a5 (i + 1) K') := (hR6.rw GEntry.length_enc).1
    have HRG : Hid (Rw GEntry.enc 3 V6 aG m (lstF s'.rst lo m)) := hOG.rw el58
    have HA7 : Hid (∀ V, V6.Extends V → ∃ s O g K, A7 Ob W1 bs (i + 1) a5 c5 s O g K V) := fun V hx => by
      have h9 : (1000 + 10 * ((i + 1 : Nat) : Int)) = 1000 + 10 * (i : Int) + 10 := by omega
      exact ⟨s', _, _, K', (by rw [h9]; exact hL6.grow hx), hR6.fr (Fr.grow (L := fun _ => False) hx) (fun e => e), HKL.out, HT5.out, HBD5.out⟩
    clear haud hOG hL6 hR6 HL5 HR5
    go_upto_region 18 with fail
    refine wp_loop_f 84 (a72I bs (some ⟨br, 0, none⟩) N Cp a5 c5 lo aG m cG i V6) (fun f _ => m - (intOf (f 10)).toNat) rfl ⟨rfl, rfl, rfl, rfl, rfl, rfl, 0, by omega, rfl, ext_Ext (Ext.refl _)⟩ ?_
    intro F2 V hrel
    obtain ⟨f3, f4, f5, f6, f8, f9, k, hk, f10, HX⟩ := hrel
    have H10 := hid_of f10
    rw [frame84a, f3, f4, f5, f6, f8, f9, f10]
    clear f3 f4 f5 f6 f8 f9 f10
    by_cases hkm : k < m
    rotate_left 1
    · have hkm' : ¬ (k : Int) < (m : Int) := by omega
      go_wp2_with fail
      refine ⟨rfl, rfl, ⟨rfl, rfl, i + 1, a5, c5, by omega, rfl, ?_, HA7.out _ HX.out⟩, ?_⟩
      · show Value.int .i64 _ = _
        go_num
      · show N - (intOf (Value.int .i64 _)).toNat < N - (intOf (F 6)).toNat
        rw [H6.out]
        simp [intOf]; omega
    have hkm' : (k : Int) < (m : Int) := by omega
    obtain ⟨x, hx1, hx2⟩ := HT5.out.at (k := k) (by rw [HKL.out, ← HM.out.1]; exact hkm)
    rw [HKL.out, ← HM.out.1, ← HM.out.2] at hx1 hx2
    obtain ⟨bg, CG, rfl, hg1, hg2, hg3, hg4⟩ := ent_at (HRG.out.ext' HX.out) hx2
    obtain ⟨ba, CA, rfl, ha1, ha2, ha3, ha4⟩ := ent_at (HRA.out.ext' HX.out) hx1
    have hbx := HBD5.out x (List.mem_of_getElem? hx1)
    obtain ⟨xs, xk, xc⟩ := x
    obtain ⟨sq, hsq⟩ : ∃ sq : Nat, xs = (sq : Int) := ⟨xs.toNat, by have := hbx.1; have h9 : (1 : Int) ≤ xs := this; omega⟩
    subst hsq
    have hte := fun W' => entryText_any W' sq (by have := hbx.2.1; have h9 : (sq : Int) ≤ 1000000 := this; omega) xk xc hbx.2.2.1 hbx.2.2.2
    obtain ⟨E, hE⟩ : ∃ E : GEntry, E = ⟨(sq : Int), xk, xc⟩ := ⟨_, rfl⟩
    rw [← hE] at hg4 ha4
    simp only [← hE] at hte
    have HTE := hid_of hte
    have k0 : (0 : Int) ≤ (k : Int) := by omega
    have kt : ((k : Int)).toNat = k := by omega
    have q1 : IntKind.i64.wrap ((lo : Int) + (k : Int)) = ((lo + k : Nat) : Int) := by rw [IntKind.wrap_i64]; omega
    have q2 : (0 : Int) ≤ ((lo + k : Nat) : Int) := by omega
    have q3 : ((lo + k : Nat) : Int) < ((i + 1 : Nat) : Int) := by omega
    have q4 : (((lo + k : Nat) : Int)).toNat = lo + k := by omega
    obtain ⟨d, hd⟩ : ∃ d, d = lo + k := ⟨_, rfl⟩
    rw [← hd] at q1 q2 q3 q4 ha2 ha3 ha4
    have q5 : (d : Int) < (i : Int) + 1 := by omega
    clear hd
    have hS0 : blk V.drew bg = some CG ∧ blk V.drew ba = some CA := ⟨hg1, ha1⟩
    have HGB : Hid (blk V bg = some CG ∧ blk V ba = some CA) := ⟨hg1, ha1⟩
    clear hte hE hbx hx1 hx2 hg1 ha1
    go_upto_region 20 with fail
    refine wp_region_held_drew (S := fun W' => blk W' bg = some CG ∧ blk W' ba = some CA) (by kernel_rfl) hS0 (fun hHeld => ?_)
    refine wpAnyH_take (i := 0) (oi := ⟨_, _, _, _, _, _⟩) (v := ?_) rfl (by kernel_rfl) (by kernel_rfl) (by kernel_rfl) (fun _ _ _ h => h) (Or.inl ⟨by rfl, ?_⟩) (by assumption) ?_
    rotate_left 1
    · intro W' hSw
      obtain ⟨hS1, hS2⟩ := hSw
      go_simp
      try with_reducible rfl
    try simp only [Act.put, List.setIfInBounds_toArray, List.set_cons_zero, List.set_cons_succ]
    refine wpAnyH_take (i := 1) (oi := ⟨_, _, _, _, _, _⟩) (v := ?_) rfl (by kernel_rfl) (by kernel_rfl) (by kernel_rfl) (fun _ _ _ h => h) (Or.inl ⟨by rfl, ?_⟩) (by assumption) ?_
    rotate_left 1
    · intro W' hSw
      obtain ⟨hS1, hS2⟩ := hSw
      go_simp
      try with_reducible rfl
    try simp only [Act.put, List.setIfInBounds_toArray, List.set_cons_zero, List.set_cons_succ]
    refine wpAnyH_take (i := 2) (oi := ⟨_, _, _, _, _, _⟩) (v := ?_) rfl (by kernel_rfl) (by kernel_rfl) (by kernel_rfl) (fun _ _ _ h => h) (Or.inl ⟨by rfl, ?_⟩) (by assumption) ?_
    rotate_left 1
    · intro W' hSw
      obtain ⟨hS1, hS2⟩ := hSw
      go_simp
      try with_reducible rfl
    try simp only [Act.put, List.setIfInBounds_toArray, List.set_cons_zero, List.set_cons_succ]
    refine wpAnyH_take (i := 3) (oi := ⟨_, _, _, _, _, _⟩) (v := ?_) rfl (by kernel_rfl) (by kernel_rfl) (by kernel_rfl) (fun _ _ _ h => h) (Or.inl ⟨by rfl, ?_⟩) (by assumption) ?_
    rotate_left 1
    · intro W' hSw
      obtain ⟨hS1, hS2⟩ := hSw
      go_simp
      try with_reducible rfl
    try simp only [Act.put, List.setIfInBounds_toArray, List.set_cons_zero, List.set_cons_succ]
    refine wpAnyH_take (i := 4) (oi := ⟨_, _, _, _, _, _⟩) (v := ?_) rfl (by kernel_rfl) (by kernel_rfl) (by kernel_rfl) (fun _ _ _ h => h) (Or.inl ⟨by rfl, ?_⟩) (by assumption) ?_
    rotate_left 1
    · intro W' hSw
      obtain ⟨hS1, hS2⟩ := hSw
      go_simp
      try with_reducible rfl
    try simp only [Act.put, List.setIfInBounds_toArray, List.set_cons_zero, List.set_cons_succ]
    refine wpAnyH_take (i := 5) (oi := ⟨_, _, _, _, _, _⟩) (v := ?_) rfl (by kernel_rfl) (by kernel_rfl) (by kernel_rfl) (fun _ _ _ h => h) (Or.inl ⟨by rfl, ?_⟩) (by assumption) ?_
    rotate_left 1
    · intro W' hSw
      obtain ⟨hS1, hS2⟩ := hSw
      go_simp
      try with_reducible rfl
    try simp only [Act.put, List.setIfInBounds_toArray, List.set_cons_zero, List.set_cons_succ]
    refine wpAnyH_take (i := 6) (oi := ⟨_, _, _, _, _, _⟩) (v := ?_) rfl (by kernel_rfl) (by kernel_rfl) (by kernel_rfl) (fun _ _ _ h => h) (Or.inl ⟨by rfl, ?_⟩) (by assumption) ?_
    rotate_left 1
    · intro W' hSw
      obtain ⟨hS1, hS2⟩ := hSw
      go_simp
      try with_reducible rfl
    try simp only [Act.put, List.setIfInBounds_toArray, List.set_cons_zero, List.set_cons_succ]
    refine wpAnyH_take (i := 7) (oi := ⟨_, _, _, _, _, _⟩) (v := ?_) rfl (by kernel_rfl) (by kernel_rfl) (by kernel_rfl) (fun _ _ _ h => h) (Or.inl ⟨by rfl, ?_⟩) (by assumption) ?_
    rotate_left 1
    · intro W' hSw
      obtain ⟨hS1, hS2⟩ := hSw
      go_simp
      try with_reducible rfl
    try simp only [Act.put, List.setIfInBounds_toArray, List.set_cons_zero, List.set_cons_succ]
    refine wpAnyH_take (i := 8) (oi := ⟨_, _, _, _, _, _⟩) (v := ?_) rfl (by kernel_rfl) (by kernel_rfl) (by kernel_rfl) (fun _ _ _ h => h) (Or.inl ⟨by rfl, ?_⟩) (by assumption) ?_
    rotate_left 1
    · intro W' hSw
      obtain ⟨hS1, hS2⟩ := hSw
      go_simp
      try with_reducible rfl
    try simp only [Act.put, List.setIfInBounds_toArray, List.set_cons_zero, List.set_cons_succ]
    refine wpAnyH_take (i := 9) (oi := ⟨_, _, _, _, _, _⟩) (v := ?_) rfl (by kernel_rfl) (by kernel_rfl) (by kernel_rfl) (fun _ _ _ h => h) (Or.inl ⟨by rfl, ?_⟩) (by assumption) ?_
    rotate_left 1
    · intro W' hSw
      obtain ⟨hS1, hS2⟩ := hSw
      go_simp
      try with_reducible rfl
    try simp only [Act.put, List.setIfInBounds_toArray, List.set_cons_zero, List.set_cons_succ]
    refine wpAnyH_take (i := 10) (oi := ⟨_, _, _, _, _, _⟩) (v := ?_) rfl (by kernel_rfl) (by kernel_rfl) (by kernel_rfl) (fun _ _ _ h => h) (Or.inl ⟨by rfl, ?_⟩) (by assumption) ?_
    rotate_left 1
    · intro W' hSw
      obtain ⟨hS1, hS2⟩ := hSw
      go_simp
      try with_reducible rfl
    try simp only [Act.put, List.setIfInBounds_toArray, List.set_cons_zero, List.set_cons_succ]
    refine wpAnyH_take (i := 11) (oi := ⟨_, _, _, _, _, _⟩) (v := ?_) rfl (by kernel_rfl) (by kernel_rfl) (by kernel_rfl) (fun _ _ _ h => h) (Or.inl ⟨by rfl, ?_⟩) (by assumption) ?_
    rotate_left 1
    · intro W' hSw
      obtain ⟨hS1, hS2⟩ := hSw
      go_simp
      try with_reducible rfl
    try simp only [Act.put, List.setIfInBounds_toArray, List.set_cons_zero, List.set_cons_succ]
    refine wpAnyH_take (i := 12) (oi := ⟨_, _, _, _, _, _⟩) (v := ?_) rfl (by kernel_rfl) (by kernel_rfl) (by kernel_rfl) (fun _ _ _ h => h) (Or.inl ⟨by rfl, ?_⟩) (by assumption) ?_
    rotate_left 1
    · intro W' hSw
      obtain ⟨hS1, hS2⟩ := hSw
      go_simp
      try with_reducible rfl
    try simp only [Act.put, List.setIfInBounds_toArray, List.set_cons_zero, List.set_cons_succ]
    refine wpAnyH_take (i := 13) (oi := ⟨_, _, _, _, _, _⟩) (v := ?_) rfl (by kernel_rfl) (by kernel_rfl) (by kernel_rfl) (fun _ _ _ h => h) (Or.inl ⟨by rfl, ?_⟩) (by assumption) ?_
    rotate_left 1
    · intro W' hSw
      obtain ⟨hS1, hS2⟩ := hSw
      go_simp
      try with_reducible rfl
    try simp only [Act.put, List.setIfInBounds_toArray, List.set_cons_zero, List.set_cons_succ]
    refine wpAnyH_take (i := 14) (oi := ⟨_, _, _, _, _, _⟩) (v := ?_) rfl (by kernel_rfl) (by kernel_rfl) (by kernel_rfl) (fun _ _ _ h => h) (Or.inl ⟨by rfl, ?_⟩) (by assumption) ?_
    rotate_left 1
    · intro W' hSw
      obtain ⟨hS1, hS2⟩ := hSw
      go_simp
      try with_reducible rfl
    try simp only [Act.put, List.setIfInBounds_toArray, List.set_cons_zero, List.set_cons_succ]
    refine wpAnyH_take (i := 15) (oi := ⟨_, _, _, _, _, _⟩) (v := ?_) rfl (by kernel_rfl) (by kernel_rfl) (by kernel_rfl) (fun _ _ _ h => h) (Or.inl ⟨by rfl, ?_⟩) (by assumption) ?_
    rotate_left 1
    · intro W' hSw
      obtain ⟨hS1, hS2⟩ := hSw
      go_simp
      try with_reducible rfl
    try simp only [Act.put, List.setIfInBounds_toArray, List.set_cons_zero, List.set_cons_succ]
    refine wpAnyH_ready (rs := [16]) (by kernel_rfl) (by simp) ?_
    refine AllReadyH.cons (o := ⟨_, _, _, _, _, _⟩) rfl (fun K' hK => ?_) AllReadyH.nil
    go_simp
    refine (HTE.out _).mono ?_
    rintro e V7 ⟨st, rfl, hst1, hst2, hx7⟩
    dsimp only
    have HX7 : Hid (V6.Extends V7) := (HX.out.trans (extd V)).trans hx7
    have hS7 : blk V7 bg = some CG ∧ blk V7 ba = some CA := ⟨(hx7.blk (blk_lt hS0.1)).trans hS0.1, (hx7.blk (blk_lt hS0.2)).trans hS0.2⟩
    clear hx7
    refine hK.out _ _ hS7 (fun hHeld => ?_)
    clear hK K'
    try simp only [Act.put, List.setIfInBounds_toArray, List.set_cons_zero, List.set_cons_succ]
    have hz : ¬ ((st.size : Nat) : Int) = 0 := by omega
    have hzb : (((st.size : Nat) : Int) == 0) = false := beq_eq_false_iff_ne.2 hz
    obtain ⟨zn, hzn⟩ : ∃ zn, zn = st.size := ⟨_, rfl⟩
    rw [← hzn] at hz hzb hst1 hst2
    refine wpAnyH_take (i := 17) (oi := ⟨_, _, _, _, _, _⟩) (v := ?_) rfl (by kernel_rfl) (by kernel_rfl) (by kernel_rfl) (fun _ _ _ h => h) (Or.inl ⟨by rfl, ?_⟩) (by assumption) ?_
    rotate_left 1
    · intro W' hSw
      obtain ⟨hS1, hS2⟩ := hSw
      go_simp
      try with_reducible rfl
    try simp only [Act.put, List.setIfInBounds_toArray, List.set_cons_zero, List.set_cons_succ]
    refine wpAnyH_take (i := 18) (oi := ⟨_, _, _, _, _, _⟩) (v := ?_) rfl (by kernel_rfl) (by kernel_rfl) (by kernel_rfl) (fun _ _ _ h => h) (Or.inl ⟨by rfl, ?_⟩) (by assumption) ?_
    rotate_left 1
    · intro W' hSw
      obtain ⟨hS1, hS2⟩ := hSw
      go_simp
      try with_reducible rfl
    try simp only [Act.put, List.setIfInBounds_toArray, List.set_cons_zero, List.set_cons_succ]
    refine wpAnyH_take (i := 19) (oi := ⟨_, _, _, _, _, _⟩) (v := ?_) rfl (by kernel_rfl) (by kernel_rfl) (by kernel_rfl) (fun _ _ _ h => h) (Or.inl ⟨by rfl, ?_⟩) (by assumption) ?_
    rotate_left 1
    · intro W' hSw
      obtain ⟨hS1, hS2⟩ := hSw
      go_simp
      try with_reducible rfl
    try simp only [Act.put, List.setIfInBounds_toArray, List.set_cons_zero, List.set_cons_succ]
    refine wpAnyH_done (by kernel_rfl) ?_ _
    go_wp2_with fail
    refine ⟨rfl, rfl, ⟨rfl, rfl, rfl, rfl, rfl, rfl, k + 1, by omega, ?_, HX7.out⟩, ?_⟩
    · show Value.int .i64 _ = _
      go_num
    · show m - (intOf (Value.int .i64 _)).toNat < m - (intOf (F2 10)).toNat
      rw [H10.out]
      simp [intOf]; omega
  · have hm : m = i + 1 := by have := HM.out.1; omega
    have hlo : lo = 0 := by omega
    have hb1 : ¬ (64 : Int) < ((i + 1 : Nat) : Int) := by omega
    have hb2 : ¬ (64 : Int) < (i : Int) + 1 := by omega
    subst hlo
    subst hm
    go_upto_region 10 with fail
    refine wp_region_held_drew (S := fun W' => blk W' rb = some RC ∧ True) (by kernel_rfl) ⟨w2, trivial⟩ (fun hHeld => ?_)
    refine wpAnyH_take (i := 0) (oi := ⟨_, _, _, _, _, _⟩) (v := ?_) rfl (by kernel_rfl) (by kernel_rfl) (by kernel_rfl) (fun _ _ _ h => h) (Or.inl ⟨by rfl, ?_⟩) (by assumption) ?_
    rotate_left 1
    · intro W' hSw
      obtain ⟨hS1, hS2⟩ := hSw
      go_simp
      try with_reducible rfl
    try simp only [Act.put, List.setIfInBounds_toArray, List.set_cons_zero, List.set_cons_succ]
    refine wpAnyH_take (i := 1) (oi := ⟨_, _, _, _, _, _⟩) (v := ?_) rfl (by kernel_rfl) (by kernel_rfl) (by kernel_rfl) (fun _ _ _ h => h) (Or.inl ⟨by rfl, ?_⟩) (by assumption) ?_
    rotate_left 1
    · intro W' hSw
      obtain ⟨hS1, hS2⟩ := hSw
      go_simp
      try with_reducible rfl
    try simp only [Act.put, List.setIfInBounds_toArray, List.set_cons_zero, List.set_cons_succ]
    refine wpAnyH_take (i := 2) (oi := ⟨_, _, _, _, _, _⟩) (v := ?_) rfl (by kernel_rfl) (by kernel_rfl) (by kernel_rfl) (fun _ _ _ h => h) (Or.inl ⟨by rfl, ?_⟩) (by assumption) ?_
    rotate_left 1
    · intro W' hSw
      obtain ⟨hS1, hS2⟩ := hSw
      go_simp
      try with_reducible rfl
    try simp only [Act.put, List.setIfInBounds_toArray, List.set_cons_zero, List.set_cons_succ]
    refine wpAnyH_take (i := 3) (oi := ⟨_, _, _, _, _, _⟩) (v := ?_) rfl (by kernel_rfl) (by kernel_rfl) (by kernel_rfl) (fun _ _ _ h => h) (Or.inl ⟨by rfl, ?_⟩) (by assumption) ?_
    rotate_left 1
    · intro W' hSw
      obtain ⟨hS1, hS2⟩ := hSw
      go_simp
      try with_reducible rfl
    try simp only [Act.put, List.setIfInBounds_toArray, List.set_cons_zero, List.set_cons_succ]
    refine wpAnyH_take (i := 4) (oi := ⟨_, _, _, _, _, _⟩) (v := ?_) rfl (by kernel_rfl) (by kernel_rfl) (by kernel_rfl) (fun _ _ _ h => h) (Or.inl ⟨by rfl, ?_⟩) (by assumption) ?_
    rotate_left 1
    · intro W' hSw
      obtain ⟨hS1, hS2⟩ := hSw
      go_simp
      try with_reducible rfl
    try simp only [Act.put, List.setIfInBounds_toArray, List.set_cons_zero, List.set_cons_succ]
    refine wpAnyH_take (i := 5) (oi := ⟨_, _, _, _, _, _⟩) (v := ?_) rfl (by kernel_rfl) (by kernel_rfl) (by kernel_rfl) (fun _ _ _ h => h) (Or.inl ⟨by rfl, ?_⟩) (by assumption) ?_
    rotate_left 1
    · intro W' hSw
      obtain ⟨hS1, hS2⟩ := hSw
      go_simp
      try with_reducible rfl
    try simp only [Act.put, List.setIfInBounds_toArray, List.set_cons_zero, List.set_cons_succ]
    refine wpAnyH_take (i := 6) (oi := ⟨_, _, _, _, _, _⟩) (v := ?_) rfl (by kernel_rfl) (by kernel_rfl) (by kernel_rfl) (fun _ _ _ h => h) (Or.inl ⟨by rfl, ?_⟩) (by assumption) ?_
    rotate_left 1
    · intro W' hSw
      obtain ⟨hS1, hS2⟩ := hSw
      go_simp
      try with_reducible rfl
    try simp only [Act.put, List.setIfInBounds_toArray, List.set_cons_zero, List.set_cons_succ]
    refine wpAnyH_take (i := 7) (oi := ⟨_, _, _, _, _, _⟩) (v := ?_) rfl (by kernel_rfl) (by kernel_rfl) (by kernel_rfl) (fun _ _ _ h => h) (Or.inl ⟨by rfl, ?_⟩) (by assumption) ?_
    rotate_left 1
    · intro W' hSw
      obtain ⟨hS1, hS2⟩ := hSw
      go_simp
      try with_reducible rfl
    try simp only [Act.put, List.setIfInBounds_toArray, List.set_cons_zero, List.set_cons_succ]
    refine wpAnyH_take (i := 8) (oi := ⟨_, _, _, _, _, _⟩) (v := ?_) rfl (by kernel_rfl) (by kernel_rfl) (by kernel_rfl) (fun _ _ _ h => h) (Or.inl ⟨by rfl, ?_⟩) (by assumption) ?_
    rotate_left 1
    · intro W' hSw
      obtain ⟨hS1, hS2⟩ := hSw
      go_simp
      try with_reducible rfl
    try simp only [Act.put, List.setIfInBounds_toArray, List.set_cons_zero, List.set_cons_succ]
    refine wpAnyH_take (i := 9) (oi := ⟨_, _, _, _, _, _⟩) (v := ?_) rfl (by kernel_rfl) (by kernel_rfl) (by kernel_rfl) (fun _ _ _ h => h) (Or.inl ⟨by rfl, ?_⟩) (by assumption) ?_
    rotate_left 1
    · intro W' hSw
      obtain ⟨hS1, hS2⟩ := hSw
      go_simp
      try with_reducible rfl
    try simp only [Act.put, List.setIfInBounds_toArray, List.set_cons_zero, List.set_cons_succ]
    refine wpAnyH_take (i := 10) (oi := ⟨_, _, _, _, _, _⟩) (v := ?_) rfl (by kernel_rfl) (by kernel_rfl) (by kernel_rfl) (fun _ _ _ h => h) (Or.inl ⟨by rfl, ?_⟩) (by assumption) ?_
    rotate_left 1
    · intro W' hSw
      obtain ⟨hS1, hS2⟩ := hSw
      go_simp
      try with_reducible rfl
    try simp only [Act.put, List.setIfInBounds_toArray, List.set_cons_zero, List.set_cons_succ]
    refine wpAnyH_take (i := 11) (oi := ⟨_, _, _, _, _, _⟩) (v := ?_) rfl (by kernel_rfl) (by kernel_rfl) (by kernel_rfl) (fun _ _ _ h => h) (Or.inl ⟨by rfl, ?_⟩) (by assumption) ?_
    rotate_left 1
    · intro W' hSw
      obtain ⟨hS1, hS2⟩ := hSw
      go_simp
      try with_reducible rfl
    try simp only [Act.put, List.setIfInBounds_toArray, List.set_cons_zero, List.set_cons_succ]
    refine wpAnyH_ready (rs := [12]) (by kernel_rfl) (by simp) ?_
    refine AllReadyH.cons (o := ⟨_, _, _, _, _, _⟩) rfl (fun K' hK => ?_) AllReadyH.nil
    go_simp
    refine hK.out _ _ ⟨hal5 _, trivial⟩ (fun hHeld => ?_)
    clear hK K'
    try simp only [Act.put, List.setIfInBounds_toArray, List.set_cons_zero, List.set_cons_succ]
    refine wpAnyH_ready (rs := [13]) (by kernel_rfl) (by simp) ?_
    refine AllReadyH.cons (o := ⟨_, _, _, _, _, _⟩) rfl (fun K' hK => ?_) AllReadyH.nil
    refine wp_append_run _ _ 58 rfl _ _ _ _ rfl rfl hrun ?_
    refine hK.out _ _ ⟨hrb5, trivial⟩ (fun hHeld => ?_)
    clear hK K'
    try simp only [Act.put, List.setIfInBounds_toArray, List.set_cons_zero, List.set_cons_succ]
    refine wpAnyH_take (i := 14) (oi := ⟨_, _, _, _, _, _⟩) (v := ?_) rfl (by kernel_rfl) (by kernel_rfl) (by kernel_rfl) (fun _ _ _ h => h) (Or.inl ⟨by rfl, ?_⟩) (by assumption) ?_
    rotate_left 1
    · intro W' hSw
      obtain ⟨hS1, hS2⟩ := hSw
      go_simp
      try with_reducible rfl
    try simp only [Act.put, List.setIfInBounds_toArray, List.set_cons_zero, List.set_cons_succ]
    refine wpAnyH_done (by kernel_rfl) ?_ _
    clear hHeld hrun
    go_wp2_with fail
    refine haud.mono ?_
    rintro e V6 ⟨aG, cG, rfl, hOG⟩
    dsimp only
    rw [← HM.out.1] at hOG ⊢
    rw [← HM.out.2] at hOG
    have hL6 := HL5.out.grow hOG.2.1
    have hR6 := HR5.out.fr (Fr.grow (L := fun _ => False) hOG.2.1) (fun e => e)
    have HRA : Hid (Rw GEntry.enc 3 V6 a5 (i + 1) K') := (hR6.rw GEntry.length_enc).1
    have HRG : Hid (Rw GEntry.enc 3 V6 aG (i + 1) (lstF s'.rst 0 (i + 1))) := hOG.rw el58
    have HA7 : Hid (∀ V, V6.Extends V → ∃ s O g K, A7 Ob W1 bs (i + 1) a5 c5 s O g K V) := fun V hx => by
      have h9 : (1000 + 10 * ((i + 1 : Nat) : Int)) = 1000 + 10 * (i : Int) + 10 := by omega
      exact ⟨s', _, _, K', (by rw [h9]; exact hL6.grow hx), hR6.fr (Fr.grow (L := fun _ => False) hx) (fun e => e), HKL.out, HT5.out, HBD5.out⟩
    clear haud hOG hL6 hR6 HL5 HR5
    go_upto_region 18 with fail
    refine wp_loop_f 84 (a72I bs (some ⟨br, 0, none⟩) N Cp a5 c5 0 aG (i + 1) cG i V6) (fun f _ => (i + 1) - (intOf (f 10)).toNat) rfl ⟨rfl, rfl, rfl, rfl, rfl, rfl, 0, by omega, rfl, ext_Ext (Ext.refl _)⟩ ?_
    intro F2 V hrel
    obtain ⟨f3, f4, f5, f6, f8, f9, k, hk, f10, HX⟩ := hrel
    have H10 := hid_of f10
    rw [frame84a, f3, f4, f5, f6, f8, f9, f10]
    clear f3 f4 f5 f6 f8 f9 f10
    by_cases hkm : k < (i + 1)
    rotate_left 1
    · have hkm' : ¬ (k : Int) < ((i + 1) : Int) := by omega
      go_wp2_with fail
      refine ⟨rfl, rfl, ⟨rfl, rfl, i + 1, a5, c5, by omega, rfl, ?_, HA7.out _ HX.out⟩, ?_⟩
      · show Value.int .i64 _ = _
        go_num
      · show N - (intOf (Value.int .i64 _)).toNat < N - (intOf (F 6)).toNat
        rw [H6.out]
        simp [intOf]; omega
    have hkm' : (k : Int) < ((i + 1) : Int) := by omega
    obtain ⟨x, hx1, hx2⟩ := HT5.out.at (k := k) (by rw [HKL.out, ← HM.out.1]; exact hkm)
    rw [HKL.out, ← HM.out.1, ← HM.out.2] at hx1 hx2
    obtain ⟨bg, CG, rfl, hg1, hg2, hg3, hg4⟩ := ent_at (HRG.out.ext' HX.out) hx2
    obtain ⟨ba, CA, rfl, ha1, ha2, ha3, ha4⟩ := ent_at (HRA.out.ext' HX.out) hx1
    have hbx := HBD5.out x (List.mem_of_getElem? hx1)
    obtain ⟨xs, xk, xc⟩ := x
    obtain ⟨sq, hsq⟩ : ∃ sq : Nat, xs = (sq : Int) := ⟨xs.toNat, by have := hbx.1; have h9 : (1 : Int) ≤ xs := this; omega⟩
    subst hsq
    have hte := fun W' => entryText_any W' sq (by have := hbx.2.1; have h9 : (sq : Int) ≤ 1000000 := this; omega) xk xc hbx.2.2.1 hbx.2.2.2
    obtain ⟨E, hE⟩ : ∃ E : GEntry, E = ⟨(sq : Int), xk, xc⟩ := ⟨_, rfl⟩
    rw [← hE] at hg4 ha4
    simp only [← hE] at hte
    have HTE := hid_of hte
    have k0 : (0 : Int) ≤ (k : Int) := by omega
    have kt : ((k : Int)).toNat = k := by omega
    have wk : IntKind.i64.wrap (k : Int) = (k : Int) := by rw [IntKind.wrap_i64]; omega
    have q6 : (k : Int) < (i : Int) + 1 := by omega
    rw [Nat.zero_add] at ha2 ha3 ha4
    have hS0 : blk V.drew bg = some CG ∧ blk V.drew ba = some CA := ⟨hg1, ha1⟩
    have HGB : Hid (blk V bg = some CG ∧ blk V ba = some CA) := ⟨hg1, ha1⟩
    clear hte hE hbx hx1 hx2 hg1 ha1
    go_upto_region 20 with fail
    refine wp_region_held_drew (S := fun W' => blk W' bg = some CG ∧ blk W' ba = some CA) (by kernel_rfl) hS0 (fun hHeld => ?_)
    refine wpAnyH_take (i := 0) (oi := ⟨_, _, _, _, _, _⟩) (v := ?_) rfl (by kernel_rfl) (by kernel_rfl) (by kernel_rfl) (fun _ _ _ h => h) (Or.inl ⟨by rfl, ?_⟩) (by assumption) ?_
    rotate_left 1
    · intro W' hSw
      obtain ⟨hS1, hS2⟩ := hSw
      go_simp
      try with_reducible rfl
    try simp only [Act.put, List.setIfInBounds_toArray, List.set_cons_zero, List.set_cons_succ]
    refine wpAnyH_take (i := 1) (oi := ⟨_, _, _, _, _, _⟩) (v := ?_) rfl (by kernel_rfl) (by kernel_rfl) (by kernel_rfl) (fun _ _ _ h => h) (Or.inl ⟨by rfl, ?_⟩) (by assumption) ?_
    rotate_left 1
    · intro W' hSw
      obtain ⟨hS1, hS2⟩ := hSw
      go_simp
      try with_reducible rfl
    try simp only [Act.put, List.setIfInBounds_toArray, List.set_cons_zero, List.set_cons_succ]
    refine wpAnyH_take (i := 2) (oi := ⟨_, _, _, _, _, _⟩) (v := ?_) rfl (by kernel_rfl) (by kernel_rfl) (by kernel_rfl) (fun _ _ _ h => h) (Or.inl ⟨by rfl, ?_⟩) (by assumption) ?_
    rotate_left 1
    · intro W' hSw
      obtain ⟨hS1, hS2⟩ := hSw
      go_simp
      try with_reducible rfl
    try simp only [Act.put, List.setIfInBounds_toArray, List.set_cons_zero, List.set_cons_succ]
    refine wpAnyH_take (i := 3) (oi := ⟨_, _, _, _, _, _⟩) (v := ?_) rfl (by kernel_rfl) (by kernel_rfl) (by kernel_rfl) (fun _ _ _ h => h) (Or.inl ⟨by rfl, ?_⟩) (by assumption) ?_
    rotate_left 1
    · intro W' hSw
      obtain ⟨hS1, hS2⟩ := hSw
      go_simp
      try with_reducible rfl
    try simp only [Act.put, List.setIfInBounds_toArray, List.set_cons_zero, List.set_cons_succ]
    refine wpAnyH_take (i := 4) (oi := ⟨_, _, _, _, _, _⟩) (v := ?_) rfl (by kernel_rfl) (by kernel_rfl) (by kernel_rfl) (fun _ _ _ h => h) (Or.inl ⟨by rfl, ?_⟩) (by assumption) ?_
    rotate_left 1
    · intro W' hSw
      obtain ⟨hS1, hS2⟩ := hSw
      go_simp
      try with_reducible rfl
    try simp only [Act.put, List.setIfInBounds_toArray, List.set_cons_zero, List.set_cons_succ]
    refine wpAnyH_take (i := 5) (oi := ⟨_, _, _, _, _, _⟩) (v := ?_) rfl (by kernel_rfl) (by kernel_rfl) (by kernel_rfl) (fun _ _ _ h => h) (Or.inl ⟨by rfl, ?_⟩) (by assumption) ?_
    rotate_left 1
    · intro W' hSw
      obtain ⟨hS1, hS2⟩ := hSw
      go_simp
      try with_reducible rfl
    try simp only [Act.put, List.setIfInBounds_toArray, List.set_cons_zero, List.set_cons_succ]
    refine wpAnyH_take (i := 6) (oi := ⟨_, _, _, _, _, _⟩) (v := ?_) rfl (by kernel_rfl) (by kernel_rfl) (by kernel_rfl) (fun _ _ _ h => h) (Or.inl ⟨by rfl, ?_⟩) (by assumption) ?_
    rotate_left 1
    · intro W' hSw
      obtain ⟨hS1, hS2⟩ := hSw
      go_simp
      try with_reducible rfl
    try simp only [Act.put, List.setIfInBounds_toArray, List.set_cons_zero, List.set_cons_succ]
    refine wpAnyH_take (i := 7) (oi := ⟨_, _, _, _, _, _⟩) (v := ?_) rfl (by kernel_rfl) (by kernel_rfl) (by kernel_rfl) (fun _ _ _ h => h) (Or.inl ⟨by rfl, ?_⟩) (by assumption) ?_
    rotate_left 1
    · intro W' hSw
      obtain ⟨hS1, hS2⟩ := hSw
      go_simp
      try with_reducible rfl
    try simp only [Act.put, List.setIfInBounds_toArray, List.set_cons_zero, List.set_cons_succ]
    refine wpAnyH_take (i := 8) (oi := ⟨_, _, _, _, _, _⟩) (v := ?_) rfl (by kernel_rfl) (by kernel_rfl) (by kernel_rfl) (fun _ _ _ h => h) (Or.inl ⟨by rfl, ?_⟩) (by assumption) ?_
    rotate_left 1
    · intro W' hSw
      obtain ⟨hS1, hS2⟩ := hSw
      go_simp
      try with_reducible rfl
    try simp only [Act.put, List.setIfInBounds_toArray, List.set_cons_zero, List.set_cons_succ]
    refine wpAnyH_take (i := 9) (oi := ⟨_, _, _, _, _, _⟩) (v := ?_) rfl (by kernel_rfl) (by kernel_rfl) (by kernel_rfl) (fun _ _ _ h => h) (Or.inl ⟨by rfl, ?_⟩) (by assumption) ?_
    rotate_left 1
    · intro W' hSw
      obtain ⟨hS1, hS2⟩ := hSw
      go_simp
      try with_reducible rfl
    try simp only [Act.put, List.setIfInBounds_toArray, List.set_cons_zero, List.set_cons_succ]
    refine wpAnyH_take (i := 10) (oi := ⟨_, _, _, _, _, _⟩) (v := ?_) rfl (by kernel_rfl) (by kernel_rfl) (by kernel_rfl) (fun _ _ _ h => h) (Or.inl ⟨by rfl, ?_⟩) (by assumption) ?_
    rotate_left 1
    · intro W' hSw
      obtain ⟨hS1, hS2⟩ := hSw
      go_simp
      try with_reducible rfl
    try simp only [Act.put, List.setIfInBounds_toArray, List.set_cons_zero, List.set_cons_succ]
    refine wpAnyH_take (i := 11) (oi := ⟨_, _, _, _, _, _⟩) (v := ?_) rfl (by kernel_rfl) (by kernel_rfl) (by kernel_rfl) (fun _ _ _ h => h) (Or.inl ⟨by rfl, ?_⟩) (by assumption) ?_
    rotate_left 1
    · intro W' hSw
      obtain ⟨hS1, hS2⟩ := hSw
      go_simp
      try with_reducible rfl
    try simp only [Act.put, List.setIfInBounds_toArray, List.set_cons_zero, List.set_cons_succ]
    refine wpAnyH_take (i := 12) (oi := ⟨_, _, _, _, _, _⟩) (v := ?_) rfl (by kernel_rfl) (by kernel_rfl) (by kernel_rfl) (fun _ _ _ h => h) (Or.inl ⟨by rfl, ?_⟩) (by assumption) ?_
    rotate_left 1
    · intro W' hSw
      obtain ⟨hS1, hS2⟩ := hSw
      go_simp
      try with_reducible rfl
    try simp only [Act.put, List.setIfInBounds_toArray, List.set_cons_zero, List.set_cons_succ]
    refine wpAnyH_take (i := 13) (oi := ⟨_, _, _, _, _, _⟩) (v := ?_) rfl (by kernel_rfl) (by kernel_rfl) (by kernel_rfl) (fun _ _ _ h => h) (Or.inl ⟨by rfl, ?_⟩) (by assumption) ?_
    rotate_left 1
    · intro W' hSw
      obtain ⟨hS1, hS2⟩ := hSw
      go_simp
      try with_reducible rfl
    try simp only [Act.put, List.setIfInBounds_toArray, List.set_cons_zero, List.set_cons_succ]
    refine wpAnyH_take (i := 14) (oi := ⟨_, _, _, _, _, _⟩) (v := ?_) rfl (by kernel_rfl) (by kernel_rfl) (by kernel_rfl) (fun _ _ _ h => h) (Or.inl ⟨by rfl, ?_⟩) (by assumption) ?_
    rotate_left 1
    · intro W' hSw
      obtain ⟨hS1, hS2⟩ := hSw
      go_simp
      try with_reducible rfl
    try simp only [Act.put, List.setIfInBounds_toArray, List.set_cons_zero, List.set_cons_succ]
    refine wpAnyH_take (i := 15) (oi := ⟨_, _, _, _, _, _⟩) (v := ?_) rfl (by kernel_rfl) (by kernel_rfl) (by kernel_rfl) (fun _ _ _ h => h) (Or.inl ⟨by rfl, ?_⟩) (by assumption) ?_
    rotate_left 1
    · intro W' hSw
      obtain ⟨hS1, hS2⟩ := hSw
      go_simp
      try with_reducible rfl
    try simp only [Act.put, List.setIfInBounds_toArray, List.set_cons_zero, List.set_cons_succ]
    refine wpAnyH_ready (rs := [16]) (by kernel_rfl) (by simp) ?_
    refine AllReadyH.cons (o := ⟨_, _, _, _, _, _⟩) rfl (fun K' hK => ?_) AllReadyH.nil
    go_simp
    refine (HTE.out _).mono ?_
    rintro e V7 ⟨st, rfl, hst1, hst2, hx7⟩
    dsimp only
    have HX7 : Hid (V6.Extends V7) := (HX.out.trans (extd V)).trans hx7
    have hS7 : blk V7 bg = some CG ∧ blk V7 ba = some CA := ⟨(hx7.blk (blk_lt hS0.1)).trans hS0.1, (hx7.blk (blk_lt hS0.2)).trans hS0.2⟩
    clear hx7
    refine hK.out _ _ hS7 (fun hHeld => ?_)
    clear hK K'
    try simp only [Act.put, List.setIfInBounds_toArray, List.set_cons_zero, List.set_cons_succ]
    have hz : ¬ ((st.size : Nat) : Int) = 0 := by omega
    have hzb : (((st.size : Nat) : Int) == 0) = false := beq_eq_false_iff_ne.2 hz
    obtain ⟨zn, hzn⟩ : ∃ zn, zn = st.size := ⟨_, rfl⟩
    rw [← hzn] at hz hzb hst1 hst2
    refine wpAnyH_take (i := 17) (oi := ⟨_, _, _, _, _, _⟩) (v := ?_) rfl (by kernel_rfl) (by kernel_rfl) (by kernel_rfl) (fun _ _ _ h => h) (Or.inl ⟨by rfl, ?_⟩) (by assumption) ?_
    rotate_left 1
    · intro W' hSw
      obtain ⟨hS1, hS2⟩ := hSw
      go_simp
      try with_reducible rfl
    try simp only [Act.put, List.setIfInBounds_toArray, List.set_cons_zero, List.set_cons_succ]
    refine wpAnyH_take (i := 18) (oi := ⟨_, _, _, _, _, _⟩) (v := ?_) rfl (by kernel_rfl) (by kernel_rfl) (by kernel_rfl) (fun _ _ _ h => h) (Or.inl ⟨by rfl, ?_⟩) (by assumption) ?_
    rotate_left 1
    · intro W' hSw
      obtain ⟨hS1, hS2⟩ := hSw
      go_simp
      try with_reducible rfl
    try simp only [Act.put, List.setIfInBounds_toArray, List.set_cons_zero, List.set_cons_succ]
    refine wpAnyH_take (i := 19) (oi := ⟨_, _, _, _, _, _⟩) (v := ?_) rfl (by kernel_rfl) (by kernel_rfl) (by kernel_rfl) (fun _ _ _ h => h) (Or.inl ⟨by rfl, ?_⟩) (by assumption) ?_
    rotate_left 1
    · intro W' hSw
      obtain ⟨hS1, hS2⟩ := hSw
      go_simp
      try with_reducible rfl
    try simp only [Act.put, List.setIfInBounds_toArray, List.set_cons_zero, List.set_cons_succ]
    refine wpAnyH_done (by kernel_rfl) ?_ _
    go_wp2_with fail
    refine ⟨rfl, rfl, ⟨rfl, rfl, rfl, rfl, rfl, rfl, k + 1, by omega, ?_, HX7.out⟩, ?_⟩
    · show Value.int .i64 _ = _
      go_num
    · show (i + 1) - (intOf (Value.int .i64 _)).toNat < (i + 1) - (intOf (F2 10)).toNat
      rw [H10.out]
      simp [intOf]; omega
end Go.Proofs.Qxb6500787a
