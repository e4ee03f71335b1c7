import Derived.Test.Qxb6500787aGreatNd
import Derived.Test.Qxb6500787aGreatNb
import Derived.Test.Qxb6500787aGreatBe
import Derived.Test.Qxb6500787aGreatBa
import Derived.Test.Qxb6500787aGreatYb

import Derived.StillTailTactics
import Derived.Deep.QuietTactic
import Derived.BigQuiet
import Derived.Deep.RegionHeld
import Derived.Deep.CutRange
import Derived.Laws.ResultCell
import Derived.Laws.Rows
import Derived.DeepKeys
import Derived.DataBytes
import Derived.Laws.StructEq
import Derived.Laws.AppendOwn
import Derived.Laws.MakeOwn
import Derived.Lib.AppendStr
set_option linter.unusedSimpArgs false
set_option linter.unusedVariables false
namespace Go.Proofs.Qxb6500787aGreat
open Go.RowKit Go.Blk
attribute [local go_sem ↓] execOp_load execOp_store execOp_alloc
attribute [local go_sem] Tryz.ld26 Tryz.st26 Tryz.ld27 Tryz.st27 Tryz.ld28 Tryz.st28 Tryz.ld3 Tryz.st3 Tryz.ld29 Tryz.st29 Tryz.ld44 Tryz.st44 Tryz.ld4 Tryz.st4 Tryz.ld50 Tryz.st50 Tryz.ld32 Tryz.st32 Tryz.ld49 Tryz.st49 Tryz.ld68 Tryz.st68 Tryz.ld9 Tryz.st9 Tryz.ld40 Tryz.st40 Tryz.ld138 Tryz.st138 Tryz.ld139 Tryz.st139 Tryz.ld146 Tryz.st146 Tryz.ld183 Tryz.st183 Tryz.ld184 Tryz.st184 Tryz.ld192 Tryz.st192 Tryz.ld195 Tryz.st195 Tryz.ld217 Tryz.st217 Tryz.ld159 Tryz.st159 Tryz.ld142 Tryz.st142 Tryz.ld2 Tryz.st2 Tryz.ld5 Tryz.st5 Tryz.ld12 Tryz.st12 Tryz.ld21 Tryz.st21 Tryz.ld22 Tryz.st22 Tryz.ld24 Tryz.st24 Tryz.ld58 Tryz.st58 Tryz.ld97 Tryz.st97 Tryz.ld101 Tryz.st101 Tryz.ld116 Tryz.st116 Tryz.ld121 Tryz.st121 Tryz.ld135 Tryz.st135 Tryz.ld136 Tryz.st136 Tryz.ld143 Tryz.st143 Tryz.ld148 Tryz.st148 Tryz.ld154 Tryz.st154 Tryz.ld173 Tryz.st173 Tryz.ld187 Tryz.st187 Tryz.ld222 Tryz.st222 Tryz.ld241 Tryz.st241 Tryz.ld248 Tryz.st248 Tryz.ld268 Tryz.st268 Tryz.ld272 Tryz.st272 Tryz.ld153 Tryz.st153 Tryz.ld255 Tryz.st255 Tryz.ld256 Tryz.st256 Tryz.ld129 Tryz.st129 Tryz.ld152 Tryz.st152 Tryz.ld31 Tryz.st31 Tryz.ld46 Tryz.st46 Tryz.ld52 Tryz.st52 Tryz.ld54 Tryz.st54 Tryz.ld60 Tryz.st60 Tryz.ld70 Tryz.st70 Tryz.ld74 Tryz.st74 Tryz.ld93 Tryz.st93 Tryz.ld141 Tryz.st141 Tryz.ld151 Tryz.st151 Tryz.ld170 Tryz.st170 Tryz.ld186 Tryz.st186 Tryz.ld189 Tryz.st189 Tryz.ld194 Tryz.st194 Tryz.ld197 Tryz.st197 Tryz.ld219 Tryz.st219 Tryz.ld224 Tryz.st224 Tryz.ld230 Tryz.st230 Tryz.ld235 Tryz.st235 Tryz.ld243 Tryz.st243 Tryz.ld247 Tryz.st247 Tryz.ld252 Tryz.st252 Tryz.ld258 Tryz.st258 Tryz.al153 Tryz.al255 Tryz.al256 Tryz.al129 Tryz.al152 Tryz.al31 Tryz.al46 Tryz.al52 Tryz.al54 Tryz.al60 Tryz.al70 Tryz.al74 Tryz.al93 Tryz.al141 Tryz.al151 Tryz.al170 Tryz.al186 Tryz.al189 Tryz.al194 Tryz.al197 Tryz.al219 Tryz.al224 Tryz.al230 Tryz.al235 Tryz.al243 Tryz.al247 Tryz.al252 Tryz.al258
attribute [local go_sem] Request.length_enc Request.ok_enc Request.all_get Request.all_set Request.kind_get Request.kind_set Request.blob_get Request.blob_set Request.items_get Request.items_set Request.pred_get Request.pred_set Request.slots_get Request.slots_set Trace.length_enc Trace.ok_enc Trace.all_get Trace.all_set Trace.op_get Trace.op_set Trace.calls_get Trace.calls_set Item.length_enc Item.ok_enc Item.all_get Item.all_set Item.del_get Item.del_set Item.pred_get Item.pred_set Item.args_get Item.args_set Reply.length_enc Reply.ok_enc Reply.all_get Reply.all_set Reply.code_get Reply.code_set Reply.kind_get Reply.kind_set Reply.index_get Reply.index_set Reply.yes_get Reply.yes_set Reply.preds_get Reply.preds_set Reply.rules_get Reply.rules_set Reply.arity_get Reply.arity_set Reply.rows_get Reply.rows_set Reply.fact_get Reply.fact_set Reply.fact_del_get Reply.fact_del_set Reply.fact_pred_get Reply.fact_pred_set Reply.fact_args_get Reply.fact_args_set GEntry.length_enc GEntry.ok_enc GEntry.all_get GEntry.all_set GEntry.seq_get GEntry.seq_set GEntry.kind_get GEntry.kind_set GEntry.code_get GEntry.code_set GOp.length_enc GOp.ok_enc GOp.all_get GOp.all_set GOp.kind_get GOp.kind_set GOp.raw_get GOp.raw_set Reader.length_enc Reader.ok_enc Reader.all_get Reader.all_set Reader.buf_get Reader.buf_set Reader.at__get Reader.at__set Slot.length_enc Slot.ok_enc Slot.all_get Slot.all_set Slot.bound_get Slot.bound_set Slot.name_get Slot.name_set Session.length_enc Session.ok_enc Session.all_get Session.all_set Session.svc_get Session.svc_set Session.buf_get Session.buf_set Session.closed_get Session.closed_set GProgram.length_enc GProgram.ok_enc GProgram.all_get GProgram.all_set GProgram.pool_get GProgram.pool_set GProgram.preds_get GProgram.preds_set GProgram.rules_get GProgram.rules_set GProgram.strata_get GProgram.strata_set PredInfo.length_enc PredInfo.ok_enc PredInfo.all_get PredInfo.all_set PredInfo.arity_get PredInfo.arity_set PredInfo.base_get PredInfo.base_set PredInfo.stratum_get PredInfo.stratum_set Change.length_enc Change.ok_enc Change.all_get Change.all_set Change.del_get Change.del_set Change.pred_get Change.pred_set Change.t_get Change.t_set Store.length_enc Store.ok_enc Store.all_get Store.all_set Store.names_get Store.names_set Store.arity_get Store.arity_set Store.rows_get Store.rows_set Src.length_enc Src.ok_enc Src.all_get Src.all_set Src.b_get Src.b_set Src.at__get Src.at__set Atom.length_enc Atom.ok_enc Atom.all_get Atom.all_set Atom.pred_get Atom.pred_set Atom.args_get Atom.args_set GRule.length_enc GRule.ok_enc GRule.all_get GRule.all_set GRule.head_get GRule.head_set GRule.body_get GRule.body_set GRule.head_pred_get GRule.head_pred_set GRule.head_args_get GRule.head_args_set Cert.length_enc Cert.ok_enc Cert.all_get Cert.all_set Cert.names_get Cert.names_set Cert.nodes_get Cert.nodes_set Fact.length_enc Fact.ok_enc Fact.all_get Fact.all_set Fact.pred_get Fact.pred_set Fact.t_get Fact.t_set Literal.length_enc Literal.ok_enc Literal.all_get Literal.all_set Literal.neg_get Literal.neg_set Literal.atom_get Literal.atom_set Literal.atom_pred_get Literal.atom_pred_set Literal.atom_args_get Literal.atom_args_set Engine.length_enc Engine.ok_enc Engine.all_get Engine.all_set Engine.prog_get Engine.prog_set Engine.st_get Engine.st_set SrcCertm.length_enc SrcCertm.ok_enc SrcCertm.all_get SrcCertm.all_set SrcCertm.b_get SrcCertm.b_set SrcCertm.at__get SrcCertm.at__set GNode.length_enc GNode.ok_enc GNode.all_get GNode.all_set GNode.rule_get GNode.rule_set GNode.pred_get GNode.pred_set GNode.vals_get GNode.vals_set GNode.refs_get GNode.refs_set Term.length_enc Term.ok_enc Term.all_get Term.all_set Term.var_get Term.var_set Term.n_get Term.n_set Env.length_enc Env.ok_enc Env.all_get Env.all_set Env.val_get Env.val_set Env.set_get Env.set_set
attribute [local go_sem] size_put size_ext blk_put free_put blk_alloc free_alloc blk_drew free_drew blk_ext free_ext lookOr_some putOr_some segAt_some cellAt_some storeIn_some put_put put_alloc_new length_arr ok_arr_u8 ok_arr_u32 ok_arr_u64 ok_arr_i64 ok_arr_sl cellsV_agg cellsV_int cellsV_bool cellsV_string cellsV_pointer cellsV_slice cellsV_sl ok_int ok_bool ok_string ok_pointer ok_slice ok_sl toList_arr seg_arr set_arr nth_splice nth_splice0 seg_splice seg_splice0 splice_splice splice_splice0 length_splice_if
attribute [local go_sem ↓] execOp_box
attribute [local go_sem] box_run nth_arr_u8 put_arr_u8 blk_drewN free_drewN put_drewN blk_raw free_raw
theorem addN_nd {L : List (List UInt8)} {x : List UInt8} (h : L.Nodup) : (addN L x).Nodup := by
  unfold addN
  split
  · exact h
  · rename_i h1
    rw [List.nodup_append]
    refine ⟨h, by simp, fun y hy z hz e => ?_⟩
    rw [List.mem_singleton.1 hz] at e
    exact h1 (e ▸ hy)
theorem foldN_nd : ∀ (K L : List (List UInt8)), L.Nodup → (K.foldl addN L).Nodup
  | [], _, h => h
  | x :: K, L, h => foldN_nd K _ (addN_nd h)
theorem cnL_nd : ∀ (Ls : List NRow) (L : List (List UInt8)), L.Nodup → (Ls.foldl cnR L).Nodup
  | [], _, h => h
  | r :: Ls, L, h => cnL_nd Ls _ (foldN_nd r L h)
theorem cnF_nd : ∀ (F : List (List NRow)) (L : List (List UInt8)), L.Nodup → (F.foldl cnL L).Nodup
  | [], _, h => h
  | Ls :: F, L, h => cnF_nd F _ (cnL_nd Ls L h)
/-- The constants in use, each once. -/
theorem constF_nd (pool : List (List UInt8)) (F : List (List NRow)) : (constF pool F).Nodup := cnF_nd F _ (foldN_nd pool [] List.nodup_nil)
theorem const_empty (pool : List (List UInt8)) (n : Nat) : (constF pool (List.replicate n [])).length ≤ pool.length := nodup_sub _ _ (constF_nd _ _) (fun x hx => by
  rcases constF_mem.1 hx with h | ⟨Ls, h1, r, h2, h3⟩
  · exact h
  · rw [List.eq_of_mem_replicate h1] at h2; cases h2)
theorem facts_made (W : World) (n : Nat) : FactsAt (W.alloc (.cells (List.replicate n (Value.slice none 0 0)).toArray 75)) (some ⟨W.heap.size, 0, none⟩) n (List.replicate n []) := by
  refine ⟨List.replicate n ⟨none, 0, 0⟩, ⟨List.length_replicate .., fun i x hx => ?_⟩, List.length_replicate .., fun i s x h1 h2 => ?_⟩
  · have hi : i < n := by have := (List.getElem?_eq_some_iff.1 hx).1; rwa [List.length_replicate] at this
    have ex : x = ⟨none, 0, 0⟩ := List.eq_of_mem_replicate (List.mem_of_getElem? hx)
    rw [ex]
    refine ⟨W.heap.size, List.replicate n (Value.slice none 0 0), rfl, ?_, ?_, ?_⟩
    · rw [blk_alloc, if_pos rfl]
    · rw [List.length_replicate]; omega
    · unfold seg
      rw [List.drop_replicate, List.take_replicate, Nat.mul_one, Nat.min_eq_left (by omega)]
      rfl
  · have e1 : s = ⟨none, 0, 0⟩ := List.eq_of_mem_replicate (List.mem_of_getElem? h1)
    have e2 : x = [] := List.eq_of_mem_replicate (List.mem_of_getElem? h2)
    rw [e1, e2]
    exact Nest.nil
theorem LS.ren {Ob : Own} {Wb : World} {bs : Nat} {m : Int} {s : Sv} {O : Own} {g : Nat} {V : World} {Ob' : Own} {Wb' : World} (h : LS Ob' Wb' bs m s O g V) (hK : Kp Ob Wb Ob' Wb') : LS Ob Wb bs m s O g V := ⟨hK.trans h.kp, h.sv, h.fr, h.lo, h.inv⟩
theorem LS.bytes {Ob : Own} {Wb : World} {bs : Nat} {m : Int} {s : Sv} {O : Own} {g : Nat} {V : World} (h : LS Ob Wb bs m s O g V) {a : Option Addr} {n : Nat} {xs : List UInt8} (hB : Bs (core Ob Wb) a n xs) : Bs (core O V) a n xs := hB.sub h.sub
theorem imgF_len {s : Sv} (h : s.img.length ≤ 65536) : (imgF s).length ≤ 65536 := by
  unfold imgF
  cases s.inst with
  | none => exact Nat.zero_le _
  | some _ => exact h
/-- The law's loop. -/
def l4I (Ob : Own) (Wb : World) (bs : Nat) (A : Option Addr) (N Cp : Nat) (f : Nat → Value) (V : World) : Prop := f 3 = .pointer (some ⟨bs, 0, none⟩) ∧ f 4 = .slice A N Cp ∧ ∃ i : Nat, i ≤ N ∧ f 5 = .int .i64 (i : Nat) ∧ Hid (∃ s O g, LS Ob Wb bs (1000 + 3000 * (i : Int)) s O g V ∧ s.img.length ≤ 65536)
set_option maxRecDepth 100000 in
theorem frame152l (f : Nat → Value) : frameN 152 f = #[f 0, f 1, f 2, f 3, f 4, f 5, f 6, f 7, f 8, f 9, f 10, f 11, f 12, f 13, f 14, f 15, f 16, f 17, f 18, f 19, f 20, f 21, f 22, f 23, f 24, f 25, f 26, f 27, f 28, f 29, f 30, f 31, f 32, f 33, f 34, f 35, f 36, f 37, f 38, f 39, f 40, f 41, f 42, f 43, f 44, f 45, f 46, f 47, f 48, f 49, f 50, f 51, f 52, f 53, f 54, f 55, f 56, f 57, f 58, f 59, f 60, f 61, f 62, f 63, f 64, f 65, f 66, f 67, f 68, f 69, f 70, f 71, f 72, f 73, f 74, f 75, f 76, f 77, f 78, f 79, f 80, f 81, f 82, f 83, f 84, f 85, f 86, f 87, f 88, f 89, f 90, f 91, f 92, f 93, f 94, f 95, f 96, f 97, f 98, f 99, f 100, f 101, f 102, f 103, f 104, f 105, f 106, f 107, f 108, f 109, f 110, f 111, f 112, f 113, f 114, f 115, f 116, f 117, f 118, f 119, f 120, f 121, f 122, f 123, f 124, f 125, f 126, f 127, f 128, f 129, f 130, f 131, f 132, f 133, f 134, f 135, f 136, f 137, f 138, f 139, f 140, f 141, f 142, f 143, f 144, f 145, f 146, f 147, f 148, f 149, f 150, f 151] := by kernel_rfl
/-- The client's loop. -/
def l4J (Ob : Own) (Wb : World) (bs b10 b15 i n : Nat) (A : Option Addr) (N Cp : Nat) (m : Int) (t : InsS) (img : List UInt8) (f : Nat → Value) (V : World) : Prop := f 3 = .pointer (some ⟨bs, 0, none⟩) ∧ f 4 = .slice A N Cp ∧ f 5 = .int .i64 (i : Nat) ∧ f 10 = .pointer (some ⟨b10, 0, none⟩) ∧ f 15 = .pointer (some ⟨b15, 0, none⟩) ∧ ∃ p : Nat, p ≤ n ∧ f 16 = .int .i64 (p : Nat) ∧ Hid (∃ s O g, LS Ob Wb bs (m + 10 * (p : Int)) s O g V ∧ s.inst = some t ∧ s.img = img)
attribute [local go_sem ↓] execOp_make
set_option maxRecDepth 40000 in
set_option maxHeartbeats 1000000 in
theorem loader_walk (w : World) (a : Option Addr) (len cap : Nat) (g : Nat → GOp) (dt : Nat → List UInt8) (hS : ScriptAt w a len cap g dt) : Calls Tryz.prog 4 #[.slice a len cap] w fun e w' => e = .returned (.bool true) ∧ w.Extends w' := by
  have HS : Hid (ScriptAt w a len cap g dt) := hS
  have hS0 := hS
  clear hS
  go_enter Tryz.func4, Tryz.ntmps4
  go_wp2_with fail
  refine (small_any w a len cap g dt hS0).mono ?_
  rintro e w1 ⟨⟨r, rfl, hr⟩, rfl⟩
  clear hS0
  dsimp only
  cases r
  · go_wp2_with fail
    go_ret
    exact ⟨rfl, ext_Ext (Ext.refl _)⟩
  obtain ⟨hlen, hsz⟩ := hr rfl
  have HSZ : Hid (∀ i, i < len → (g i).raw.len ≤ 65536) := hsz
  clear hr hsz
  go_wp2_with fail
  refine (new_any w1).mono ?_
  rintro e w2 ⟨rfl, e2⟩
  dsimp only
  have HS2 : Hid (ScriptAt w2 a len cap g dt) := by
    show ScriptAt _ _ _ _ _ _
    rw [e2]
    exact HS.out.mono (extends_alloc (ext_Ext (Ext.refl _)) _)
  have HE2 := hid_of e2
  clear e2
  go_wp2_with fail
  refine (sends_any w2 a len cap g dt HS2.out hlen).mono ?_
  rintro e W1 ⟨A, N, Cp, L, rfl, hat⟩
  dsimp only
  rw [HE2.out] at hat
  have hbeg := beg_of HS.out hlen HSZ.out hat
  obtain ⟨bs, ebs⟩ : ∃ bs, bs = w1.heap.size := ⟨_, rfl⟩
  rw [← ebs] at hbeg ⊢
  obtain ⟨Ob, hOb⟩ : ∃ Ob, Ob = lab (lab (fun _ => Lab.no) bs (.a 0 0)) (bs + 1) .no := ⟨_, rfl⟩
  rw [← hOb] at hbeg
  have HBEG := hid_of hbeg
  have hN : N ≤ 65536 := hbeg.nn
  clear hat hbeg ebs hOb HS2 HE2 HSZ
  go_upto_region 6 with fail
  refine wp_loop_f 152 (l4I Ob W1 bs A N Cp) (fun f _ => N - (intOf (f 5)).toNat) rfl ⟨rfl, rfl, 0, by omega, rfl, ⟨Sv.zero, Ob, 0, by simpa using HBEG.out.ls, Nat.zero_le _⟩⟩ ?_
  intro F V hrel
  obtain ⟨f3, f4, i, hi, f5, HJ⟩ := hrel
  have H5 := hid_of f5
  rw [frame152l, f3, f4, f5]
  clear f3 f4 f5
  obtain ⟨s, O, g0, hLS, himg⟩ := HJ.out
  have HLS := hid_of hLS
  have HIMG := hid_of himg
  clear HJ himg
  by_cases hin : i < N
  rotate_left 1
  · have hin' : ¬ (i : Int) < (N : Int) := by omega
    have HX := hid_of (kp_ext hLS.kp HBEG.out.ex HBEG.out.old)
    clear hLS
    go_wp2_with fail
    go_ret
    exact ⟨rfl, HX.out⟩
  have hin' : (i : Int) < (N : Int) := by omega
  have i0 : (0 : Int) ≤ (i : Int) := by omega
  have i2 : ((i : Int)).toNat = i := by omega
  obtain ⟨x, raw, br, CR, rfl, hbr, hobr, hcl, hnr, hrl, hdx⟩ := HBEG.out.at hin
  obtain ⟨hbrV, hobV⟩ := hLS.blk hbr hobr
  have HBR : Hid (blk W1 br = some CR ∧ Ob br = .no) := ⟨hbr, hobr⟩
  have HDX := hid_of hdx
  have HRL := hid_of hrl
  have hdec := dec_both 19 (.inr rfl) V x raw ((hdx.sub hLS.sub).sub (Sub.core _ _))
  obtain ⟨xa, xn, xc⟩ := x
  dsimp only at hnr hdec
  clear hLS hbr hobr hdx hrl hobV
  go_wp2_with fail
  refine hdec.mono ?_
  rintro e V2 ⟨k, ba, bn, bc, qa, qn, qc, p, sa, sn, sc, rfl, hRq, hx2⟩
  dsimp only
  obtain ⟨dc, hdc⟩ : ∃ dc, dc = (decF raw).1 := ⟨_, rfl⟩
  rw [← hdc]
  have HDC := hid_of hdc
  have HKQ := hid_of hRq.1
  have HBLOB := hid_of hRq.2.1
  obtain ⟨RQ, hRQ⟩ : ∃ RQ, RQ = reqE k ba bn bc qa qn qc p sa sn sc := ⟨_, rfl⟩
  have q0 : nth RQ 0 = some (.int .i64 k) := by rw [hRQ]; rfl
  have q1 : nth RQ 1 = some (.slice ba bn bc) := by rw [hRQ]; rfl
  have ql : 0 < RQ.length := by rw [hRQ]; show 0 < 5; omega
  have ql1 : 1 < RQ.length := by rw [hRQ]; show 1 < 5; omega
  clear hdec hRq hdc
  go_upto_region 9 with fail
  refine wp_world (fun V' => V2.Extends V' ∧ blk V' V2.heap.size = some (reqE k ba bn bc qa qn qc p sa sn sc)) ⟨extends_alloc (ext_Ext (Ext.refl _)) _, by rw [blk_alloc, if_pos rfl]; exact congrArg some (Request.all_set _ _)⟩ ?_
  rintro V3 ⟨hx3, hb6⟩
  obtain ⟨b6, e6⟩ : ∃ b6, b6 = V2.heap.size := ⟨_, rfl⟩
  rw [← e6, ← hRQ] at hb6
  rw [← e6]
  have hL3 := HLS.out.grow (hx2.trans hx3)
  have ho6 : lab O V.heap.size .no b6 = .no := lab_ge (by rw [e6]; exact hx2.size)
  obtain ⟨O3, hO3⟩ : ∃ O3, O3 = lab O V.heap.size .no := ⟨_, rfl⟩
  have HBL3 : Hid (Bs (core O3 V3) ba bn (decF raw).2.blob ∧ bn ≤ bc ∧ bc ≤ 9223372036854775807) := by
    have h9 := bs_own HBLOB.out
    refine ⟨bs_ge (owns_grow HBLOB.out hx3) (fun k hk => by rw [hO3]; exact lab_ge hk), h9.2.1, h9.2.2⟩
  rw [← hO3] at hL3 ho6
  have hbr3' := (hL3.blk HBR.out.1 HBR.out.2).1
  have HB6 : Hid (blk V3 b6 = some RQ ∧ O3 b6 = .no) := ⟨hb6, ho6⟩
  have HL3 := hid_of hL3
  clear hx2 hx3 e6 ho6 hRQ hbrV hO3 HBLOB HLS
  by_cases hd0 : dc = 0
  rotate_left 1
  · have hdb : (dc == 0) = false := by simp [hd0]
    have hdb2 : (dc != 0) = true := by simp [hd0]
    have hsv := hL3.serve (by omega) ⟨xa, xn, xc⟩ raw (HDX.out.sub hL3.sub) HRL.out
    clear hL3
    go_wp2_with fail
    refine hsv.mono ?_
    rintro e V4 ⟨ra, rn, rc, q, s', O', g', rfl, hsr, hRB, hK, hL4, hBs, hrc1, hrc2⟩
    dsimp only
    have HJ1 : Hid (∃ s O g, LS Ob W1 bs (1000 + 3000 * ((i + 1 : Nat) : Int)) s O g V4 ∧ s.img.length ≤ 65536) := ⟨s', O', g', hL4.le (by omega), hsr.imgl HRL.out HIMG.out⟩
    clear hsv hsr hRB hK hL4 hBs hrc1 hrc2 HL3 HB6 HBL3
    go_wp2_with fail
    refine ⟨rfl, rfl, ⟨rfl, rfl, i + 1, by omega, ?_, HJ1.out⟩, ?_⟩
    · show Value.int .i64 _ = _
      go_num
    · show N - (intOf (Value.int .i64 _)).toNat < N - (intOf (F 5)).toNat
      rw [H5.out]
      simp [intOf]; omega
  subst hd0
  by_cases hk1 : k = 1
  rotate_left 1
  · have hkb : (k == 1) = false := by simp [hk1]
    have hkb2 : (k != 1) = true := by simp [hk1]
    have hsv := hL3.serve (by omega) ⟨xa, xn, xc⟩ raw (HDX.out.sub hL3.sub) HRL.out
    clear hL3
    go_wp2_with fail
    refine hsv.mono ?_
    rintro e V4 ⟨ra, rn, rc, q, s', O', g', rfl, hsr, hRB, hK, hL4, hBs, hrc1, hrc2⟩
    dsimp only
    have HJ1 : Hid (∃ s O g, LS Ob W1 bs (1000 + 3000 * ((i + 1 : Nat) : Int)) s O g V4 ∧ s.img.length ≤ 65536) := ⟨s', O', g', hL4.le (by omega), hsr.imgl HRL.out HIMG.out⟩
    clear hsv hsr hRB hK hL4 hBs hrc1 hrc2 HL3 HB6 HBL3
    go_wp2_with fail
    refine ⟨rfl, rfl, ⟨rfl, rfl, i + 1, by omega, ?_, HJ1.out⟩, ?_⟩
    · show Value.int .i64 _ = _
      go_num
    · show N - (intOf (Value.int .i64 _)).toNat < N - (intOf (F 5)).toNat
      rw [H5.out]
      simp [intOf]; omega
  have HK1 : Hid ((decF raw).2.kind = 1 ∧ (decF raw).1 = 0) := ⟨by rw [← HKQ.out]; exact hk1, HDC.out.symm⟩
  have HLDR : Hid (∀ (s0 s' : Sv) q, svR s0 raw q s' → _) := fun s0 s' q h => svR.load (s := s0) (s' := s') (q := q) HK1.out.2 HK1.out.1 h
  clear HKQ HDC
  subst hk1
  have him := image2_any hL3.sv (Nat.le_trans HIMG.out (by decide))
  obtain ⟨im, eim⟩ : ∃ im, im = imgF s := ⟨_, rfl⟩
  rw [← eim] at him
  have himl : im.length ≤ 65536 := by rw [eim]; exact imgF_len HIMG.out
  have HIM := hid_of eim
  clear hL3 eim
  go_wp2_with fail
  refine him.mono ?_
  rintro e V4 ⟨a8, c8, rfl, ho8, hx4⟩
  dsimp only
  have hL4 := HL3.out.grow hx4
  have HB8 : Hid (Bs (core (lab O3 V3.heap.size .no) V4) a8 im.length im) := bs_ge ho8 (fun k hk => lab_ge hk)
  have hl := listing_any hL4.self (by omega)
  have hb64 := hL4.kp
  have HK34 : Hid (Kp O3 V3 (lab O3 V3.heap.size .no) V4) := Kp.fr (Fr.grow hx4) (fun _ _ e => e)
  obtain ⟨O4, hO4⟩ : ∃ O4, O4 = lab O3 V3.heap.size .no := ⟨_, rfl⟩
  rw [← hO4] at hl HB8 HK34 hL4
  have HK4 := hid_of hL4.kp
  clear him ho8 hx4 hL4 hb64 hO4
  go_wp2_with fail
  refine hl.mono ?_
  rintro e V5 ⟨la, ln, lc, s5, O5, g5, rfl, hln, hln64, hins5, himg5, hL5, hLst⟩
  dsimp only
  have HL5 : Hid (LS Ob W1 bs (1000 + 3000 * (i : Int) + 640) s5 O5 g5 V5) := hL5.ren HK4.out
  have HB85 : Hid (Bs (core O5 V5) a8 im.length im) := HB8.out.sub hL5.kp.sub
  have HLST := hid_of hLst
  have HLN := hid_of hln
  have HS5 : Hid (s5.inst = s.inst ∧ s5.img = s.img) := ⟨hins5, himg5⟩
  have HBL5 : Hid (Bs (core O5 V5) ba bn (decF raw).2.blob) := (HBL3.out.1.sub HK34.out.sub).sub hL5.kp.sub
  have HB65 : Hid (blk V5 b6 = some RQ ∧ O5 b6 = .no) := by
    obtain ⟨m1, m2⟩ := HK34.out.keep b6 (blk_lt HB6.out.1) (by rw [HB6.out.2]; exact kept_no)
    obtain ⟨m3, m4⟩ := hL5.kp.keep b6 (by have := HK34.out.size; have := blk_lt HB6.out.1; omega) (by rw [m1, HB6.out.2]; exact kept_no)
    exact ⟨(blk_of_heap (m4.trans m2)).trans HB6.out.1, (m3.trans m1).trans HB6.out.2⟩
  have hb65 := HB65.out.1
  have hdsm := decF_small HRL.out
  have hbn : bn ≤ 65536 := by
    have h9 : (decF raw).2.blob.length = bn := HBL5.out.1
    have := hdsm.1
    omega
  have hbd := bdec_any V5 ba bn bc hbn HBL3.out.2.1 HBL3.out.2.2 (decF raw).2.blob (HBL5.out.sub (Sub.core _ _))
  obtain ⟨pc, hpc⟩ : ∃ pc, pc = (decP (decF raw).2.blob).1 := ⟨_, rfl⟩
  obtain ⟨p0, hp0⟩ : ∃ p0, p0 = (decP (decF raw).2.blob).2 := ⟨_, rfl⟩
  have HPC := hid_of hpc
  have HP0 := hid_of hp0
  clear hl hln hins5 himg5 hL5 hLst hb6 HB8 HK34 HK4 HL3 hdsm hpc hp0 hbr3'
  go_wp2_with fail
  refine hbd.mono ?_
  rintro e V6 ⟨x, rfl, O6, hBl, hPg⟩
  dsimp only
  rw [← HPC.out]
  have xl := GProgram.length_enc x
  have xo := GProgram.ok_enc x
  have xs' := GProgram.all_set GProgram.zero x
  have HBLK := hid_of hBl
  have HPG : Hid (pc = 0 → PgM V5 O6 V6 x p0) := fun e => by rw [HP0.out]; exact hPg (by rw [← HPC.out]; exact e)
  clear hbd hBl hPg
  go_upto_region 13 with fail
  refine wp_world (fun V => V6.Extends V ∧ blk V V6.heap.size = some (GProgram.enc x) ∧ free V V6.heap.size = true) ⟨?_, ?_, ?_⟩ ?_
  · exact extends_alloc (ext_Ext (Ext.refl _)) _
  · rw [blk_alloc, if_pos rfl]
  · rw [free_alloc, if_pos rfl]
  rintro V7 ⟨hx7, hb10, hf10⟩
  obtain ⟨b10, e10⟩ : ∃ b10, b10 = V6.heap.size := ⟨_, rfl⟩
  rw [← e10] at hb10 hf10 ⊢
  have HX57 : Hid (V5.Extends V7) := HBLK.out.ext.trans hx7
  have h510 : V5.heap.size ≤ b10 := by rw [e10]; exact HBLK.out.ext.size
  by_cases hpc0 : pc = 0
  rotate_left 1
  · have hpb : (pc == 0) = false := by simp [hpc0]
    have HXx := HX57
    have HQ : Hid (∀ q s', svR s5 raw q s' → q.code ≠ 0) := fun q s' h => (HLDR.out s5 s' q h).2.1 (by rw [← HPC.out]; exact hpc0)
    clear hb10 hf10 hx7 e10 xl xo xs' HPG HBLK
    go_upto_region 18 with fail
    have hLx := HL5.out.grow HXx.out
    obtain ⟨Ox, hOx⟩ : ∃ Ox, Ox = lab O5 V5.heap.size .no := ⟨_, rfl⟩
    have HK5x : Hid (Kp O5 V5 Ox V7) := by rw [hOx]; exact Kp.fr (Fr.grow HXx.out) (fun _ _ e => e)
    rw [← hOx] at hLx
    have hbrx := (hLx.blk HBR.out.1 HBR.out.2).1
    have hsv := hLx.self.serve (by omega) ⟨xa, xn, xc⟩ raw (HDX.out.sub hLx.sub) HRL.out
    have HKx := hid_of hLx.kp
    have HIx := hid_of hLx.inv
    clear hLx hOx HXx
    go_wp2_with fail
    refine hsv.mono ?_
    rintro e Y1 ⟨ra, rn, rc, q, s6, P1, g6, rfl, hsr, hRB, hK, hL6, hBs, hrc1, hrc2⟩
    dsimp only
    have hq0 := HQ.out q s6 hsr
    obtain ⟨hin6, him6⟩ := (HLDR.out s5 s6 q hsr).1 hq0
    have hkc := svR.k (s' := s6) HIx.out.ins HRL.out hsr.choose_spec.1
    obtain ⟨kd, hkd⟩ : ∃ kd : Nat, q.kind = (kd : Int) := ⟨q.kind.toNat, by have := hkc.1; omega⟩
    obtain ⟨cd, hcd⟩ : ∃ cd : Nat, q.code = (cd : Int) := ⟨q.code.toNat, by have := hkc.2.1; omega⟩
    obtain ⟨rb, ro, RC, rfl, w2, w3, w4, w5, w6⟩ := rep_two (hBs.sub (Sub.core _ _)) hkd hcd (by have := hkc.1; omega) (by have := hkc.2.1; omega)
    have hwc : IntKind.i64.wrap (cd : Int) = (cd : Int) := by
      have h1 := hkc.2.1
      rw [hcd] at h1
      rw [IntKind.wrap_i64]; omega
    have hcd0 : ((cd : Int) == 0) = false := by
      rw [hcd] at hq0
      simp; omega
    have hcd1 : ¬ (cd : Int) = 0 := by rw [hcd] at hq0; exact hq0
    have hcd2 : ¬ cd = 0 := by omega
    have hro : ro < RC.length := by omega
    have hrn0 : (0 : Int) < (rn : Int) := by omega
    have him2 := image2_any hL6.sv (by rw [him6, HS5.out.2]; exact Nat.le_trans HIMG.out (by decide))
    have eim2 : imgF s6 = im := by
      rw [HIM.out]
      unfold imgF
      rw [hin6, HS5.out.1, him6, HS5.out.2]
    rw [eim2] at him2
    have HL6 : Hid (LS Ox V7 bs (1000 + 3000 * (i : Int) + 640 + 10) s6 P1 g6 Y1) := hL6
    have els : lsF s6 = lsF s := by
      unfold lsF
      rw [hin6, HS5.out.1]
    have HELS : Hid (lsF s6 = lsF s ∧ s6.img = s.img) := ⟨els, him6.trans HS5.out.2⟩
    have HLE : Hid (∀ r ∈ lsF s, r.length ≤ 1000000000) := fun r hr => Nat.le_trans (lsF_le hL6.inv (by rw [els]; exact hr)) (by decide)
    clear hsv hsr hRB hK hL6 hBs hrc1 hrc2 hkc hkd hcd hq0 hin6 him6 w5 w6 eim2 els HIx hbrx
    go_wp2_with fail
    refine him2.mono ?_
    rintro e Y2 ⟨ia2, ic2, rfl, ho2, hy2⟩
    dsimp only
    have hL7 := HL6.out.grow hy2
    obtain ⟨P2, hP2⟩ : ∃ P2, P2 = lab P1 Y1.heap.size .no := ⟨_, rfl⟩
    rw [← hP2] at hL7
    have hsb := sameBytes_eq Y2 ia2 a8 im.length ic2 c8 (by omega) im (bs_own ho2).1 ((((HB85.out.sub HK5x.out.sub).sub hL7.kp.sub).sub (Sub.core _ _)))
    have HL7 := hid_of hL7
    clear him2 ho2 hy2 hL7 hP2 HL6
    go_wp2_with fail
    refine hsb.mono ?_
    rintro e Y3 ⟨rfl, k3, rfl⟩
    dsimp only
    have hL8 := HL7.out.drewN k3
    obtain ⟨Y4, hY4⟩ : ∃ Y4, Y4 = Y2.drewN k3 := ⟨_, rfl⟩
    rw [← hY4] at hL8 ⊢
    have hl2 := listing_any hL8.self (by omega)
    have HK8 := hid_of hL8.kp
    clear hsb hL8 hY4 HL7
    go_wp2_with fail
    refine hl2.mono ?_
    rintro e Y5 ⟨la2, ln2, lc2, s7, P3, g7, rfl, hln2, -, hins7, himg7, hL9, hLst2⟩
    dsimp only
    rw [HELS.out.1] at hln2 hLst2
    obtain rfl : ln2 = ln := by rw [hln2, HLN.out]
    have hsl := sameListing_eq Y5 la2 la ln2 lc2 lc (lsF s) (hLst2.sub (Sub.core _ _)) ((((HLST.out.sub HK5x.out.sub).sub HK8.out.sub).sub hL9.kp.sub).sub (Sub.core _ _)) (by omega) HLE.out
    have HL9 : Hid (LS Ob W1 bs (1000 + 3000 * (i : Int) + 640 + 10 + 640) s7 P3 g7 Y5) := (hL9.ren HK8.out).ren HKx.out
    have HI7 : Hid (s7.img.length ≤ 65536) := by show s7.img.length ≤ _; rw [himg7, HELS.out.2]; exact HIMG.out
    clear hl2 hln2 hL9 hLst2 hins7 himg7
    go_wp2_with fail
    refine hsl.mono ?_
    rintro e Y6 ⟨rfl, hy6⟩
    dsimp only
    have HJ1 : Hid (∃ s O g, LS Ob W1 bs (1000 + 3000 * ((i + 1 : Nat) : Int)) s O g Y6 ∧ s.img.length ≤ 65536) := ⟨s7, _, g7, (HL9.out.grow hy6).le (by omega), HI7.out⟩
    clear hsl hy6 HL9
    go_wp2_with fail
    refine ⟨rfl, rfl, ⟨rfl, rfl, i + 1, by omega, ?_, HJ1.out⟩, ?_⟩
    · show Value.int .i64 _ = _
      go_num
    · show N - (intOf (Value.int .i64 _)).toNat < N - (intOf (F 5)).toNat
      rw [H5.out]
      simp [intOf]; omega
  have hpb : (pc == 0) = true := by simp [hpc0]
  have hPA : PgA V5.heap.size (ldO (fun _ => .a 9 8) O6 V5.heap.size b10) V7 b10 (GProgram.enc x) p0 := pgA_of HBLK.out (HPG.out hpc0) hx7 (Nat.le_of_eq e10.symm) hb10 hf10
  have hdk : DecOk p0 := by rw [HP0.out]; exact decP_ok (by rw [← HPC.out]; exact hpc0)
  obtain ⟨O7, hO7⟩ : ∃ O7, O7 = ldO (fun _ => .a 9 8) O6 V5.heap.size b10 := ⟨_, rfl⟩
  have HO7 : Hid (∀ k, k < V5.heap.size → O7 k = .a 9 8) := fun k hk => by rw [hO7]; unfold ldO; rw [if_pos hk]
  rw [← hO7] at hPA
  have HPA := hid_of hPA
  have HDK := hid_of hdk
  have hac := acceptable_any V7 b10 p0 hPA.progC ⟨Nat.le_trans hdk.rules.1 (by decide), Nat.le_trans hdk.preds.1 (by decide)⟩ (fun r hr => (hdk.rules.2 r hr).lens)
  have HPC0 : Hid ((decP (decF raw).2.blob).1 = 0) := HPC.out.symm.trans hpc0
  clear hb10 hf10 hx7 e10 xl xo xs' HPG HBLK hPA hdk hO7 HPC
  subst hpc0
  go_wp2_with fail
  refine hac.mono ?_
  rintro e V8 ⟨c, rfl, hAc, hx8⟩
  dsimp only
  rw [HP0.out] at hAc
  have HAC := hid_of hAc
  have HX58 : Hid (V5.Extends V8) := HX57.out.trans hx8
  have HX78 := hid_of hx8
  clear hac hAc hx8
  by_cases hc0 : c = 0
  rotate_left 1
  · have hcb : (c == 0) = false := by simp [hc0]
    have HXx := HX58
    have HQ : Hid (∀ q s', svR s5 raw q s' → q.code ≠ 0) := fun q s' h => ((HLDR.out s5 s' q h).2.2 HPC0.out c HAC.out).1 hc0
    clear HX57 HX58 HX78 HPA
    go_upto_region 18 with fail
    have hLx := HL5.out.grow HXx.out
    obtain ⟨Ox, hOx⟩ : ∃ Ox, Ox = lab O5 V5.heap.size .no := ⟨_, rfl⟩
    have HK5x : Hid (Kp O5 V5 Ox V8) := by rw [hOx]; exact Kp.fr (Fr.grow HXx.out) (fun _ _ e => e)
    rw [← hOx] at hLx
    have hbrx := (hLx.blk HBR.out.1 HBR.out.2).1
    have hsv := hLx.self.serve (by omega) ⟨xa, xn, xc⟩ raw (HDX.out.sub hLx.sub) HRL.out
    have HKx := hid_of hLx.kp
    have HIx := hid_of hLx.inv
    clear hLx hOx HXx
    go_wp2_with fail
    refine hsv.mono ?_
    rintro e Y1 ⟨ra, rn, rc, q, s6, P1, g6, rfl, hsr, hRB, hK, hL6, hBs, hrc1, hrc2⟩
    dsimp only
    have hq0 := HQ.out q s6 hsr
    obtain ⟨hin6, him6⟩ := (HLDR.out s5 s6 q hsr).1 hq0
    have hkc := svR.k (s' := s6) HIx.out.ins HRL.out hsr.choose_spec.1
    obtain ⟨kd, hkd⟩ : ∃ kd : Nat, q.kind = (kd : Int) := ⟨q.kind.toNat, by have := hkc.1; omega⟩
    obtain ⟨cd, hcd⟩ : ∃ cd : Nat, q.code = (cd : Int) := ⟨q.code.toNat, by have := hkc.2.1; omega⟩
    obtain ⟨rb, ro, RC, rfl, w2, w3, w4, w5, w6⟩ := rep_two (hBs.sub (Sub.core _ _)) hkd hcd (by have := hkc.1; omega) (by have := hkc.2.1; omega)
    have hwc : IntKind.i64.wrap (cd : Int) = (cd : Int) := by
      have h1 := hkc.2.1
      rw [hcd] at h1
      rw [IntKind.wrap_i64]; omega
    have hcd0 : ((cd : Int) == 0) = false := by
      rw [hcd] at hq0
      simp; omega
    have hcd1 : ¬ (cd : Int) = 0 := by rw [hcd] at hq0; exact hq0
    have hcd2 : ¬ cd = 0 := by omega
    have hro : ro < RC.length := by omega
    have hrn0 : (0 : Int) < (rn : Int) := by omega
    have him2 := image2_any hL6.sv (by rw [him6, HS5.out.2]; exact Nat.le_trans HIMG.out (by decide))
    have eim2 : imgF s6 = im := by
      rw [HIM.out]
      unfold imgF
      rw [hin6, HS5.out.1, him6, HS5.out.2]
    rw [eim2] at him2
    have HL6 : Hid (LS Ox V8 bs (1000 + 3000 * (i : Int) + 640 + 10) s6 P1 g6 Y1) := hL6
    have els : lsF s6 = lsF s := by
      unfold lsF
      rw [hin6, HS5.out.1]
    have HELS : Hid (lsF s6 = lsF s ∧ s6.img = s.img) := ⟨els, him6.trans HS5.out.2⟩
    have HLE : Hid (∀ r ∈ lsF s, r.length ≤ 1000000000) := fun r hr => Nat.le_trans (lsF_le hL6.inv (by rw [els]; exact hr)) (by decide)
    clear hsv hsr hRB hK hL6 hBs hrc1 hrc2 hkc hkd hcd hq0 hin6 him6 w5 w6 eim2 els HIx hbrx
    go_wp2_with fail
    refine him2.mono ?_
    rintro e Y2 ⟨ia2, ic2, rfl, ho2, hy2⟩
    dsimp only
    have hL7 := HL6.out.grow hy2
    obtain ⟨P2, hP2⟩ : ∃ P2, P2 = lab P1 Y1.heap.size .no := ⟨_, rfl⟩
    rw [← hP2] at hL7
    have hsb := sameBytes_eq Y2 ia2 a8 im.length ic2 c8 (by omega) im (bs_own ho2).1 ((((HB85.out.sub HK5x.out.sub).sub hL7.kp.sub).sub (Sub.core _ _)))
    have HL7 := hid_of hL7
    clear him2 ho2 hy2 hL7 hP2 HL6
    go_wp2_with fail
    refine hsb.mono ?_
    rintro e Y3 ⟨rfl, k3, rfl⟩
    dsimp only
    have hL8 := HL7.out.drewN k3
    obtain ⟨Y4, hY4⟩ : ∃ Y4, Y4 = Y2.drewN k3 := ⟨_, rfl⟩
    rw [← hY4] at hL8 ⊢
    have hl2 := listing_any hL8.self (by omega)
    have HK8 := hid_of hL8.kp
    clear hsb hL8 hY4 HL7
    go_wp2_with fail
    refine hl2.mono ?_
    rintro e Y5 ⟨la2, ln2, lc2, s7, P3, g7, rfl, hln2, -, hins7, himg7, hL9, hLst2⟩
    dsimp only
    rw [HELS.out.1] at hln2 hLst2
    obtain rfl : ln2 = ln := by rw [hln2, HLN.out]
    have hsl := sameListing_eq Y5 la2 la ln2 lc2 lc (lsF s) (hLst2.sub (Sub.core _ _)) ((((HLST.out.sub HK5x.out.sub).sub HK8.out.sub).sub hL9.kp.sub).sub (Sub.core _ _)) (by omega) HLE.out
    have HL9 : Hid (LS Ob W1 bs (1000 + 3000 * (i : Int) + 640 + 10 + 640) s7 P3 g7 Y5) := (hL9.ren HK8.out).ren HKx.out
    have HI7 : Hid (s7.img.length ≤ 65536) := by show s7.img.length ≤ _; rw [himg7, HELS.out.2]; exact HIMG.out
    clear hl2 hln2 hL9 hLst2 hins7 himg7
    go_wp2_with fail
    refine hsl.mono ?_
    rintro e Y6 ⟨rfl, hy6⟩
    dsimp only
    have HJ1 : Hid (∃ s O g, LS Ob W1 bs (1000 + 3000 * ((i + 1 : Nat) : Int)) s O g Y6 ∧ s.img.length ≤ 65536) := ⟨s7, _, g7, (HL9.out.grow hy6).le (by omega), HI7.out⟩
    clear hsl hy6 HL9
    go_wp2_with fail
    refine ⟨rfl, rfl, ⟨rfl, rfl, i + 1, by omega, ?_, HJ1.out⟩, ?_⟩
    · show Value.int .i64 _ = _
      go_num
    · show N - (intOf (Value.int .i64 _)).toNat < N - (intOf (F 5)).toNat
      rw [H5.out]
      simp [intOf]; omega
  have HC0 := hid_of hc0
  have hPA8 := HPA.out.fr (L := fun _ => False) (Fr.grow HX78.out) (fun e => e) (fun e => e) (fun e => e)
  obtain ⟨O8, hO8⟩ : ∃ O8, O8 = lab O7 V7.heap.size .no := ⟨_, rfl⟩
  rw [← hO8] at hPA8
  have HO8 : Hid (∀ k, k < V5.heap.size → O8 k = .a 9 8) := fun k hk => by rw [hO8, lab_lt (Nat.lt_of_lt_of_le hk HX57.out.size)]; exact HO7.out k hk
  have hve := verify_any hPA8 (fun r hr => (HDK.out.rules.2 r hr).lens) (fun y hy => (HDK.out.preds.2 y hy).1)
  clear hPA8 hO8 HPA HO7 HX78 HX57
  subst hc0
  go_wp2_with fail
  refine hve.mono ?_
  rintro e V9 ⟨vc, p', O9, rfl, hVR, hF9, hPA9⟩
  dsimp only
  have hvc : vc = 0 := by
    have h9 := ac_ver (by rw [← HP0.out]; exact HDK.out) HAC.out (by rw [← HP0.out]; exact hVR)
    exact h9.symm
  obtain ⟨Ce, hPA⟩ := hPA9 hvc
  have hx59 : V5.Extends V9 := hF9.extends HX58.out (fun k hk => by rw [HO8.out k hk]; rintro (e | e) <;> cases e)
  have HLDR2 : Hid (∀ (s' : Sv) q, svR s5 raw q s' → ∀ F1 T1, PfTo p' (constF p'.pool (List.replicate p'.preds.length [])) 0 (List.replicate p'.preds.length []) [] F1 T1 → (q.code = 0 ↔ overN F1 = false) ∧ (q.code = 0 → ∃ P, Fst p' P ∧ s'.inst = some (newS p' P p'.pool.length) ∧ s'.img = (decF raw).2.blob)) := fun s' q h => (((HLDR.out s5 s' q h).2.2 HPC0.out 0 HAC.out).2 rfl vc p' (by rw [← HP0.out]; exact hVR)).2.2
  have hpv : PgV p' := verR_pgV HDK.out (by rw [hvc] at hVR; exact hVR)
  have HPV := hid_of hpv
  obtain ⟨n, en⟩ : ∃ n, n = p'.preds.length := ⟨_, rfl⟩
  obtain ⟨pa1, pc1, cp1, -⟩ := hPA.pk.preds
  rw [← en] at cp1
  have hCl : 1 < Ce.length := by rw [hPA.pk.len]; omega
  have hb10 := hPA.cell
  have hn64 : n ≤ 64 := by rw [en]; exact hpv.g.pok.nD
  have hmk : ∀ w, (makeOp 52 (.int .i64 (n : Int)) (.int .i64 (n : Int))).run Tryz.prog w = .ok (.value (.slice (some ⟨w.heap.size, 0, none⟩) n n)) (w.alloc (.cells (List.replicate n (Value.slice none 0 0)).toArray 75)) := fun w => make52 w n (by omega)
  have hxa : V9.Extends (V9.alloc (.cells (List.replicate n (Value.slice none 0 0)).toArray 75)) := extends_alloc (ext_Ext (Ext.refl _)) _
  have hE : PfE (V9.alloc (.cells (List.replicate n (Value.slice none 0 0)).toArray 75)) b10 0 p' (some ⟨V9.heap.size, 0, none⟩) n (List.replicate n []) := ⟨(progC_ext hPA.progC hxa).o, facts_made V9 n, by rw [List.length_replicate]; exact en, by rw [List.length_replicate]; exact hn64, Nat.le_trans hpv.g.pok.nR (by decide), by have := hpv.g.pok.st.2; omega, fun r hr => by rw [List.length_replicate, en]; exact hpv.g.fit hr, Nat.le_trans hpv.g.pok.nP (by decide), fun L hL => by rw [List.eq_of_mem_replicate hL]; exact Nat.zero_le _, (fun L hL r hr => by rw [List.eq_of_mem_replicate hL] at hr; cases hr), Nat.le_trans (const_empty _ _) hpv.g.pok.nP⟩
  have hpf := perfectN_any _ b10 0 p' (some ⟨V9.heap.size, 0, none⟩) n n (List.replicate n []) hE
  obtain ⟨MC, hMC⟩ : ∃ MC, MC = (List.replicate n (Value.slice none 0 0)).toArray := ⟨_, rfl⟩
  rw [← hMC] at hpf
  simp only [← hMC] at hmk
  have HX59 := hid_of hx59
  have HCE : Hid (∀ O', (∀ k, V5.heap.size ≤ k → O' k = .no) → blk V9 b10 = some Ce ∧ O' b10 = .no ∧ PgR (core O' V9) Ce p') := fun O' ho => by
    have hold : ∀ k l, O9 k = l → l ≠ .a 9 8 → O' k = .no := fun k l e1 e2 => ho k (Nat.le_of_not_lt fun hk => e2 (by rw [← e1, hF9.keep k (Nat.lt_of_lt_of_le hk HX58.out.size)]; exact HO8.out k hk))
    exact ⟨hPA.cell, ho b10 h510, hPA.const (fun k hk => hold k _ hk (fun e => by cases e)) (fun k hk => hold k _ hk (fun e => by cases e))⟩
  have HN := hid_of en
  clear hve hVR hF9 hPA9 hPA hx59 hE hMC hpv en hxa HX58 HO8
  go_wp2_with fail
  refine hpf.mono ?_
  rintro e V10 ⟨bo, ta, tn, tc, F1, T1, rfl, hPf, hFl, hx10, hFA, -, -, hLL, -⟩
  dsimp only
  rw [List.length_replicate] at hFl hFA ⊢
  have HX510 : Hid (V5.Extends V10) := HX59.out.trans ((extends_alloc (ext_Ext (Ext.refl _)) _).trans hx10)
  have HX910 : Hid (V9.Extends V10) := (extends_alloc (ext_Ext (Ext.refl _)) _).trans hx10
  have HPF : Hid (PfTo p' (constF p'.pool (List.replicate p'.preds.length [])) 0 (List.replicate p'.preds.length []) [] F1 T1) := by
    show PfTo _ _ _ _ _ _ _
    rw [← HN.out]; exact hPf
  have hov := overN_any V10 (some ⟨bo, 0, none⟩) n n (by omega) F1 hFA
  obtain ⟨ov, eov⟩ : ∃ ov, ov = overN F1 := ⟨_, rfl⟩
  rw [← eov] at hov
  have HOV := hid_of eov
  clear hpf hPf hFl hx10 hFA hLL eov hmk hb10
  go_wp2_with fail
  refine hov.mono ?_
  rintro e V11 ⟨rfl, e11⟩
  subst e11
  dsimp only
  clear hov
  cases ov with
  | true =>
    have HXx := HX510
    have HQ : Hid (∀ q s', svR s5 raw q s' → q.code ≠ 0) := fun q s' h e9 => by
      have h8 := (HLDR2.out s' q h F1 T1 HPF.out).1.1 e9
      rw [← HOV.out] at h8; cases h8
    clear HX59 HX510
    go_upto_region 18 with fail
    have hLx := HL5.out.grow HXx.out
    obtain ⟨Ox, hOx⟩ : ∃ Ox, Ox = lab O5 V5.heap.size .no := ⟨_, rfl⟩
    have HK5x : Hid (Kp O5 V5 Ox V11) := by rw [hOx]; exact Kp.fr (Fr.grow HXx.out) (fun _ _ e => e)
    rw [← hOx] at hLx
    have hbrx := (hLx.blk HBR.out.1 HBR.out.2).1
    have hsv := hLx.self.serve (by omega) ⟨xa, xn, xc⟩ raw (HDX.out.sub hLx.sub) HRL.out
    have HKx := hid_of hLx.kp
    have HIx := hid_of hLx.inv
    clear hLx hOx HXx
    go_wp2_with fail
    refine hsv.mono ?_
    rintro e Y1 ⟨ra, rn, rc, q, s6, P1, g6, rfl, hsr, hRB, hK, hL6, hBs, hrc1, hrc2⟩
    dsimp only
    have hq0 := HQ.out q s6 hsr
    obtain ⟨hin6, him6⟩ := (HLDR.out s5 s6 q hsr).1 hq0
    have hkc := svR.k (s' := s6) HIx.out.ins HRL.out hsr.choose_spec.1
    obtain ⟨kd, hkd⟩ : ∃ kd : Nat, q.kind = (kd : Int) := ⟨q.kind.toNat, by have := hkc.1; omega⟩
    obtain ⟨cd, hcd⟩ : ∃ cd : Nat, q.code = (cd : Int) := ⟨q.code.toNat, by have := hkc.2.1; omega⟩
    obtain ⟨rb, ro, RC, rfl, w2, w3, w4, w5, w6⟩ := rep_two (hBs.sub (Sub.core _ _)) hkd hcd (by have := hkc.1; omega) (by have := hkc.2.1; omega)
    have hwc : IntKind.i64.wrap (cd : Int) = (cd : Int) := by
      have h1 := hkc.2.1
      rw [hcd] at h1
      rw [IntKind.wrap_i64]; omega
    have hcd0 : ((cd : Int) == 0) = false := by
      rw [hcd] at hq0
      simp; omega
    have hcd1 : ¬ (cd : Int) = 0 := by rw [hcd] at hq0; exact hq0
    have hcd2 : ¬ cd = 0 := by omega
    have hro : ro < RC.length := by omega
    have hrn0 : (0 : Int) < (rn : Int) := by omega
    have him2 := image2_any hL6.sv (by rw [him6, HS5.out.2]; exact Nat.le_trans HIMG.out (by decide))
    have eim2 : imgF s6 = im := by
      rw [HIM.out]
      unfold imgF
      rw [hin6, HS5.out.1, him6, HS5.out.2]
    rw [eim2] at him2
    have HL6 : Hid (LS Ox V11 bs (1000 + 3000 * (i : Int) + 640 + 10) s6 P1 g6 Y1) := hL6
    have els : lsF s6 = lsF s := by
      unfold lsF
      rw [hin6, HS5.out.1]
    have HELS : Hid (lsF s6 = lsF s ∧ s6.img = s.img) := ⟨els, him6.trans HS5.out.2⟩
    have HLE : Hid (∀ r ∈ lsF s, r.length ≤ 1000000000) := fun r hr => Nat.le_trans (lsF_le hL6.inv (by rw [els]; exact hr)) (by decide)
    clear hsv hsr hRB hK hL6 hBs hrc1 hrc2 hkc hkd hcd hq0 hin6 him6 w5 w6 eim2 els HIx hbrx
    go_wp2_with fail
    refine him2.mono ?_
    rintro e Y2 ⟨ia2, ic2, rfl, ho2, hy2⟩
    dsimp only
    have hL7 := HL6.out.grow hy2
    obtain ⟨P2, hP2⟩ : ∃ P2, P2 = lab P1 Y1.heap.size .no := ⟨_, rfl⟩
    rw [← hP2] at hL7
    have hsb := sameBytes_eq Y2 ia2 a8 im.length ic2 c8 (by omega) im (bs_own ho2).1 ((((HB85.out.sub HK5x.out.sub).sub hL7.kp.sub).sub (Sub.core _ _)))
    have HL7 := hid_of hL7
    clear him2 ho2 hy2 hL7 hP2 HL6
    go_wp2_with fail
    refine hsb.mono ?_
    rintro e Y3 ⟨rfl, k3, rfl⟩
    dsimp only
    have hL8 := HL7.out.drewN k3
    obtain ⟨Y4, hY4⟩ : ∃ Y4, Y4 = Y2.drewN k3 := ⟨_, rfl⟩
    rw [← hY4] at hL8 ⊢
    have hl2 := listing_any hL8.self (by omega)
    have HK8 := hid_of hL8.kp
    clear hsb hL8 hY4 HL7
    go_wp2_with fail
    refine hl2.mono ?_
    rintro e Y5 ⟨la2, ln2, lc2, s7, P3, g7, rfl, hln2, -, hins7, himg7, hL9, hLst2⟩
    dsimp only
    rw [HELS.out.1] at hln2 hLst2
    obtain rfl : ln2 = ln := by rw [hln2, HLN.out]
    have hsl := sameListing_eq Y5 la2 la ln2 lc2 lc (lsF s) (hLst2.sub (Sub.core _ _)) ((((HLST.out.sub HK5x.out.sub).sub HK8.out.sub).sub hL9.kp.sub).sub (Sub.core _ _)) (by omega) HLE.out
    have HL9 : Hid (LS Ob W1 bs (1000 + 3000 * (i : Int) + 640 + 10 + 640) s7 P3 g7 Y5) := (hL9.ren HK8.out).ren HKx.out
    have HI7 : Hid (s7.img.length ≤ 65536) := by show s7.img.length ≤ _; rw [himg7, HELS.out.2]; exact HIMG.out
    clear hl2 hln2 hL9 hLst2 hins7 himg7
    go_wp2_with fail
    refine hsl.mono ?_
    rintro e Y6 ⟨rfl, hy6⟩
    dsimp only
    have HJ1 : Hid (∃ s O g, LS Ob W1 bs (1000 + 3000 * ((i + 1 : Nat) : Int)) s O g Y6 ∧ s.img.length ≤ 65536) := ⟨s7, _, g7, (HL9.out.grow hy6).le (by omega), HI7.out⟩
    clear hsl hy6 HL9
    go_wp2_with fail
    refine ⟨rfl, rfl, ⟨rfl, rfl, i + 1, by omega, ?_, HJ1.out⟩, ?_⟩
    · show Value.int .i64 _ = _
      go_num
    · show N - (intOf (Value.int .i64 _)).toNat < N - (intOf (F 5)).toNat
      rw [H5.out]
      simp [intOf]; omega
  | false =>
    go_upto_region 18 with fail
    have hLx := HL5.out.grow HX510.out
    obtain ⟨Ox, hOx⟩ : ∃ Ox, Ox = lab O5 V5.heap.size .no := ⟨_, rfl⟩
    have HK5x : Hid (Kp O5 V5 Ox V11) := by rw [hOx]; exact Kp.fr (Fr.grow HX510.out) (fun _ _ e => e)
    have HCEx : Hid (blk V11 b10 = some Ce ∧ Ox b10 = .no ∧ PgR (core Ox V11) Ce p') := by
      obtain ⟨h1, h2, h3⟩ := HCE.out Ox (fun k hk => by rw [hOx]; exact lab_ge hk)
      exact ⟨(HX910.out.blk (blk_lt h1)).trans h1, h2, h3.sub (Sub.cores fun b C hb ho => ⟨(HX910.out.blk (blk_lt hb)).trans hb, ho⟩)⟩
    rw [← hOx] at hLx
    have hbrx := (hLx.blk HBR.out.1 HBR.out.2).1
    have hsv := hLx.self.serve (by omega) ⟨xa, xn, xc⟩ raw (HDX.out.sub hLx.sub) HRL.out
    have HKx := hid_of hLx.kp
    have HIx := hid_of hLx.inv
    clear hLx hOx HX510 HX910 HCE HX59
    go_wp2_with fail
    refine hsv.mono ?_
    rintro e Y1 ⟨ra, rn, rc, q, s6, P1, g6, rfl, hsr, hRB, hK, hL6, hBs, hrc1, hrc2⟩
    dsimp only
    obtain ⟨hl1, hl2⟩ := HLDR2.out s6 q hsr F1 T1 HPF.out
    have hq0 : q.code = 0 := hl1.2 HOV.out.symm
    obtain ⟨PP1, hF1, hin6, him6⟩ := hl2 hq0
    have hkc := svR.k (s' := s6) HIx.out.ins HRL.out hsr.choose_spec.1
    obtain ⟨kd, hkd⟩ : ∃ kd : Nat, q.kind = (kd : Int) := ⟨q.kind.toNat, by have := hkc.1; omega⟩
    obtain ⟨rb, ro, RC, rfl, w2, w3, w4, w5, w6⟩ := rep_two (cd := 0) (hBs.sub (Sub.core _ _)) hkd hq0 (by have := hkc.1; omega) (by decide)
    have w4' : nth RC ro = some (.int .u8 0) := w4
    have hro : ro < RC.length := by omega
    have hrn0 : (0 : Int) < (rn : Int) := by omega
    have himl6 : s6.img.length ≤ 65536 := by rw [him6]; exact (decF_small HRL.out).1
    have HI6 : Hid (s6.img.length ≤ 65536) := himl6
    have him2 : ∀ n, Calls Tryz.prog 20 #[.pointer (some ⟨bs, 0, none⟩)] (Y1.drewN n) (ImPost2 (Y1.drewN n) (imgF s6)) := fun n => image2_any (hL6.drewN n).sv (by omega)
    have eim2 : imgF s6 = (decF raw).2.blob := by
      unfold imgF
      rw [hin6]; exact him6
    rw [eim2] at him2
    have hbl : (decF raw).2.blob.length = bn := HBL5.out.1
    have HBLN : Hid ((decF raw).2.blob.length = bn) := hbl
    have HBLy : Hid (Bs (core P1 Y1) ba bn (decF raw).2.blob) := (HBL5.out.sub HK5x.out.sub).sub hL6.kp.sub
    have HB6y : Hid (blk Y1 b6 = some RQ ∧ P1 b6 = .no) := by
      obtain ⟨m1, m2⟩ := HK5x.out.keep b6 (blk_lt HB65.out.1) (by rw [HB65.out.2]; exact kept_no)
      exact hL6.blk ((blk_of_heap m2).trans HB65.out.1) (m1.trans HB65.out.2)
    have HB10y : Hid (blk Y1 b10 = some Ce ∧ P1 b10 = .no) := hL6.blk HCEx.out.1 HCEx.out.2.1
    have HPRy : Hid (PgR (core P1 Y1) Ce p') := HCEx.out.2.2.sub hL6.kp.sub
    obtain ⟨spp, sdd, srr, cc0, cc1, -, -, crp, crd, -⟩ := HPRy.out
    obtain ⟨spa, spn, spc⟩ := spp
    have hpn : p'.pool.length = spn := crp.1
    have cc0' : nth Ce 0 = some (.slice spa spn spc) := cc0
    have hCl0 : 0 < Ce.length := by omega
    have hiu : ∀ W, (SvAt (lab P1 Y1.heap.size .no) W bs g6 s6) → Calls Tryz.prog 28 #[.pointer (some ⟨bs, 0, none⟩)] W fun e V => e = .returned (.int .i64 (spn : Int)) ∧ V = W := fun W hW => by
      have h9 := inUse_any hW
      have e9 : inUse s6 = (spn : Int) := by
        unfold inUse
        rw [hin6]
        show ((p'.pool.length : Nat) : Int) = _
        rw [hpn]
      rw [e9] at h9
      exact h9
    have HIU := hid_of hiu
    have HL6 : Hid (LS Ox V11 bs (1000 + 3000 * (i : Int) + 640 + 10) s6 P1 g6 Y1) := hL6
    have HF1 : Hid (Fst p' PP1 ∧ s6.inst = some (newS p' PP1 p'.pool.length)) := ⟨hF1, hin6⟩
    have him3 : Calls Tryz.prog 20 #[.pointer (some ⟨bs, 0, none⟩)] Y1.drew (ImPost2 Y1.drew (decF raw).2.blob) := him2 1
    have hSy : blk Y1 b6 = some RQ ∧ blk Y1 b10 = some Ce := ⟨HB6y.out.1, HB10y.out.1⟩
    clear hsv hsr hRB hK hL6 hBs hrc1 hrc2 hl1 hl2 hq0 hkc hkd w5 w6 w4 hF1 hin6 him6 himl6 eim2 hbl him2 hiu cc0 cc1 crp crd hpn hbrx cp1 HBL5 HB65 HIx
    go_upto_region 24 with fail
    repeat go_step
    refine wp_region_held_drew (S := fun W' => blk W' b6 = some RQ ∧ blk W' b10 = some Ce) (by kernel_rfl) hSy (fun hHeld => ?_)
    refine wpAnyH_take (i := 0) (oi := ⟨_, _, _, _, _, _⟩) (v := ?_) rfl (by kernel_rfl) (by kernel_rfl) (by kernel_rfl) (fun _ _ _ h => h) (Or.inl ⟨by rfl, ?_⟩) (by assumption) ?_
    rotate_left 1
    · intro W' hSw
      obtain ⟨hS1, hS2⟩ := hSw
      go_simp
      try with_reducible rfl
    try simp only [Act.put, List.setIfInBounds_toArray, List.set_cons_zero, List.set_cons_succ]
    refine wpAnyH_take (i := 2) (oi := ⟨_, _, _, _, _, _⟩) (v := ?_) rfl (by kernel_rfl) (by kernel_rfl) (by kernel_rfl) (fun _ _ _ h => h) (Or.inl ⟨by rfl, ?_⟩) (by assumption) ?_
    rotate_left 1
    · intro W' hSw
      obtain ⟨hS1, hS2⟩ := hSw
      go_simp
      try with_reducible rfl
    try simp only [Act.put, List.setIfInBounds_toArray, List.set_cons_zero, List.set_cons_succ]
    refine wpAnyH_take (i := 3) (oi := ⟨_, _, _, _, _, _⟩) (v := ?_) rfl (by kernel_rfl) (by kernel_rfl) (by kernel_rfl) (fun _ _ _ h => h) (Or.inl ⟨by rfl, ?_⟩) (by assumption) ?_
    rotate_left 1
    · intro W' hSw
      obtain ⟨hS1, hS2⟩ := hSw
      go_simp
      try with_reducible rfl
    try simp only [Act.put, List.setIfInBounds_toArray, List.set_cons_zero, List.set_cons_succ]
    refine wpAnyH_ready (rs := [1]) (by kernel_rfl) (by simp) ?_
    refine AllReadyH.cons (o := ⟨_, _, _, _, _, _⟩) rfl (fun K' hK => ?_) AllReadyH.nil
    go_simp
    refine him3.mono ?_
    rintro e Z1 ⟨ia2, ic2, rfl, ho2, hz1⟩
    dsimp only
    rw [HBLN.out]
    have hz6 : blk Z1 b6 = some RQ := (hz1.blk (blk_lt hSy.1)).trans hSy.1
    have hz10 : blk Z1 b10 = some Ce := (hz1.blk (blk_lt hSy.2)).trans hSy.2
    have hSz : blk Z1 b6 = some RQ ∧ blk Z1 b10 = some Ce := ⟨hz6, hz10⟩
    have hsb := sameBytes_eq Z1 ia2 ba bn ic2 bc (by omega) (decF raw).2.blob (by have h9 := (bs_own ho2).1; rw [HBLN.out] at h9; exact h9) ((show Bs Y1.drew ba bn (decF raw).2.blob from (HBLy.out.sub (Sub.core _ _)).sub (sub_drewN Y1 1)).grow hz1)
    have HLZ : Hid (LS P1 Y1 bs (1000 + 3000 * (i : Int) + 640 + 10) s6 (lab P1 Y1.heap.size .no) g6 Z1) := (HL6.out.self.drewN 1).grow hz1
    have HIU2 : Hid (∀ k, Calls Tryz.prog 28 #[.pointer (some ⟨bs, 0, none⟩)] (Z1.drewN k) fun e V => e = .returned (.int .i64 (spn : Int)) ∧ V = Z1.drewN k) := fun k => HIU.out _ (HLZ.out.drewN k).sv
    clear him3 ho2 hz1
    refine hK.out _ _ hSz (fun hHeld => ?_)
    clear hK K'
    try simp only [Act.put, List.setIfInBounds_toArray, List.set_cons_zero, List.set_cons_succ]
    refine wpAnyH_ready (rs := [4]) (by kernel_rfl) (by simp) ?_
    refine AllReadyH.cons (o := ⟨_, _, _, _, _, _⟩) rfl (fun K' hK => ?_) AllReadyH.nil
    go_simp
    refine hsb.mono ?_
    rintro e Z2 ⟨rfl, k3, rfl⟩
    dsimp only
    clear hsb
    refine hK.out _ _ hSz (fun hHeld => ?_)
    clear hK K'
    try simp only [Act.put, List.setIfInBounds_toArray, List.set_cons_zero, List.set_cons_succ]
    refine wpAnyH_take (i := 5) (oi := ⟨_, _, _, _, _, _⟩) (v := ?_) rfl (by kernel_rfl) (by kernel_rfl) (by kernel_rfl) (fun _ _ _ h => h) (Or.inl ⟨by rfl, ?_⟩) (by assumption) ?_
    rotate_left 1
    · intro W' hSw
      obtain ⟨hS1, hS2⟩ := hSw
      go_simp
      try with_reducible rfl
    try simp only [Act.put, List.setIfInBounds_toArray, List.set_cons_zero, List.set_cons_succ]
    refine wpAnyH_take (i := 6) (oi := ⟨_, _, _, _, _, _⟩) (v := ?_) rfl (by kernel_rfl) (by kernel_rfl) (by kernel_rfl) (fun _ _ _ h => h) (Or.inl ⟨by rfl, ?_⟩) (by assumption) ?_
    rotate_left 1
    · intro W' hSw
      obtain ⟨hS1, hS2⟩ := hSw
      go_simp
      try with_reducible rfl
    try simp only [Act.put, List.setIfInBounds_toArray, List.set_cons_zero, List.set_cons_succ]
    refine wpAnyH_take (i := 7) (oi := ⟨_, _, _, _, _, _⟩) (v := ?_) rfl (by kernel_rfl) (by kernel_rfl) (by kernel_rfl) (fun _ _ _ h => h) (Or.inl ⟨by rfl, ?_⟩) (by assumption) ?_
    rotate_left 1
    · intro W' hSw
      obtain ⟨hS1, hS2⟩ := hSw
      go_simp
      try with_reducible rfl
    try simp only [Act.put, List.setIfInBounds_toArray, List.set_cons_zero, List.set_cons_succ]
    refine wpAnyH_take (i := 9) (oi := ⟨_, _, _, _, _, _⟩) (v := ?_) rfl (by kernel_rfl) (by kernel_rfl) (by kernel_rfl) (fun _ _ _ h => h) (Or.inl ⟨by rfl, ?_⟩) (by assumption) ?_
    rotate_left 1
    · intro W' hSw
      obtain ⟨hS1, hS2⟩ := hSw
      go_simp
      try with_reducible rfl
    try simp only [Act.put, List.setIfInBounds_toArray, List.set_cons_zero, List.set_cons_succ]
    refine wpAnyH_take (i := 10) (oi := ⟨_, _, _, _, _, _⟩) (v := ?_) rfl (by kernel_rfl) (by kernel_rfl) (by kernel_rfl) (fun _ _ _ h => h) (Or.inl ⟨by rfl, ?_⟩) (by assumption) ?_
    rotate_left 1
    · intro W' hSw
      obtain ⟨hS1, hS2⟩ := hSw
      go_simp
      try with_reducible rfl
    try simp only [Act.put, List.setIfInBounds_toArray, List.set_cons_zero, List.set_cons_succ]
    refine wpAnyH_take (i := 11) (oi := ⟨_, _, _, _, _, _⟩) (v := ?_) rfl (by kernel_rfl) (by kernel_rfl) (by kernel_rfl) (fun _ _ _ h => h) (Or.inl ⟨by rfl, ?_⟩) (by assumption) ?_
    rotate_left 1
    · intro W' hSw
      obtain ⟨hS1, hS2⟩ := hSw
      go_simp
      try with_reducible rfl
    try simp only [Act.put, List.setIfInBounds_toArray, List.set_cons_zero, List.set_cons_succ]
    refine wpAnyH_ready (rs := [8]) (by kernel_rfl) (by simp) ?_
    refine AllReadyH.cons (o := ⟨_, _, _, _, _, _⟩) rfl (fun K' hK => ?_) AllReadyH.nil
    go_simp
    refine (HIU2.out k3).mono ?_
    rintro e Z4 ⟨rfl, rfl⟩
    dsimp only
    refine hK.out _ _ hSz (fun hHeld => ?_)
    clear hK K'
    try simp only [Act.put, List.setIfInBounds_toArray, List.set_cons_zero, List.set_cons_succ]
    refine wpAnyH_take (i := 12) (oi := ⟨_, _, _, _, _, _⟩) (v := ?_) rfl (by kernel_rfl) (by kernel_rfl) (by kernel_rfl) (fun _ _ _ h => h) (Or.inl ⟨by rfl, ?_⟩) (by assumption) ?_
    rotate_left 1
    · intro W' hSw
      obtain ⟨hS1, hS2⟩ := hSw
      go_simp
      try with_reducible rfl
    try simp only [Act.put, List.setIfInBounds_toArray, List.set_cons_zero, List.set_cons_succ]
    refine wpAnyH_take (i := 13) (oi := ⟨_, _, _, _, _, _⟩) (v := ?_) rfl (by kernel_rfl) (by kernel_rfl) (by kernel_rfl) (fun _ _ _ h => h) (Or.inl ⟨by rfl, ?_⟩) (by assumption) ?_
    rotate_left 1
    · intro W' hSw
      obtain ⟨hS1, hS2⟩ := hSw
      go_simp
      try with_reducible rfl
    try simp only [Act.put, List.setIfInBounds_toArray, List.set_cons_zero, List.set_cons_succ]
    refine wpAnyH_done (by kernel_rfl) ?_ _
    clear hHeld hSz hSy hz6 hz10
    go_wp2_with fail
    refine (newClient_any (Z1.drewN k3) bs).mono ?_
    rintro e Z3 ⟨rfl, ez⟩
    dsimp only
    have hxz : (Z1.drewN k3).Extends Z3 := by rw [ez]; exact extends_alloc (ext_Ext (Ext.refl _)) _
    have hbz : blk Z3 (Z1.drewN k3).heap.size = some (clE bs) := by rw [ez, blk_alloc, if_pos rfl]
    have hLz := (HLZ.out.drewN k3).grow hxz
    obtain ⟨b15, e15⟩ : ∃ b15, b15 = (Z1.drewN k3).heap.size := ⟨_, rfl⟩
    obtain ⟨Pz, hPz⟩ : ∃ Pz, Pz = lab (lab P1 Y1.heap.size .no) (Z1.drewN k3).heap.size .no := ⟨_, rfl⟩
    have HB15 : Hid (blk Z3 b15 = some (clE bs) ∧ Pz b15 = .no) := ⟨by rw [e15]; exact hbz, by rw [hPz, e15]; exact lab_ge (Nat.le_refl _)⟩
    rw [← hPz] at hLz
    rw [← e15]
    have HB10z : Hid (blk Z3 b10 = some Ce ∧ Pz b10 = .no) := hLz.blk HB10y.out.1 HB10y.out.2
    have HPRz : Hid (PgR (core Pz Z3) Ce p') := HPRy.out.sub hLz.kp.sub
    have HLz0 : Hid (LS Pz Z3 bs (1000 + 3000 * (i : Int) + 640 + 10) s6 Pz g6 Z3) := hLz.self
    have HKz : Hid (Kp Ob W1 Pz Z3) := (HKx.out.trans HL6.out.kp).trans hLz.kp
    have hbrz : blk Z3 br = some CR := by
      obtain ⟨m1, m2⟩ := HKz.out.keep br (blk_lt HBR.out.1) (by rw [HBR.out.2]; exact kept_no)
      exact (blk_of_heap m2).trans HBR.out.1
    clear hxz hbz hLz e15 hPz ez HLZ HB10y HPRy HB6y HBLy
    go_upto_region 28 with fail
    refine wp_loop_f 152 (l4J Pz Z3 bs b10 b15 i n (some ⟨br, 0, none⟩) N Cp (1000 + 3000 * (i : Int) + 640 + 10) (newS p' PP1 p'.pool.length) s6.img) (fun f _ => n - (intOf (f 16)).toNat) rfl ⟨rfl, rfl, rfl, rfl, rfl, 0, by omega, rfl, ⟨s6, Pz, g6, by simpa using HLz0.out, HF1.out.2, rfl⟩⟩ ?_
    intro G W2 hrel2
    obtain ⟨j3, j4, j5, j10, j15, p1, hp1, j16, HJ2⟩ := hrel2
    have H16 := hid_of j16
    rw [frame152l, j3, j4, j5, j10, j15, j16]
    clear j3 j4 j5 j10 j15 j16
    obtain ⟨s7, O7', g7, hL7, hin7, himg7⟩ := HJ2.out
    clear HJ2
    have hb10w := (hL7.blk HB10z.out.1 HB10z.out.2).1
    obtain ⟨-, sdd2, -, -, cc1', -, -, -, crd', -⟩ := HPRz.out
    obtain ⟨sda, sdn, sdc⟩ := sdd2
    have hsn : p'.preds.length = sdn := crd'.1
    have hsn2 : sdn = n := by rw [← hsn]; exact HN.out.symm
    subst hsn2
    have cc1z : nth Ce 1 = some (.slice sda sdn sdc) := cc1'
    have HL7 := hid_of hL7
    have HCRD := hid_of crd'
    have HI7 : Hid (s7.inst = some (newS p' PP1 p'.pool.length) ∧ s7.img = s6.img) := ⟨hin7, himg7⟩
    have HSN := hid_of hsn
    clear cc1' crd' hsn
    by_cases hpn : p1 < sdn
    rotate_left 1
    · have hpn' : ¬ (p1 : Int) < (sdn : Int) := by omega
      have HJ1 : Hid (∃ s O g, LS Ob W1 bs (1000 + 3000 * ((i + 1 : Nat) : Int)) s O g W2 ∧ s.img.length ≤ 65536) := ⟨s7, O7', g7, (hL7.ren HKz.out).le (by omega), by rw [himg7]; exact HI6.out⟩
      clear hL7 hin7 himg7
      go_wp2_with fail
      refine ⟨rfl, rfl, ⟨rfl, rfl, i + 1, by omega, ?_, HJ1.out⟩, ?_⟩
      · show Value.int .i64 _ = _
        go_num
      · show N - (intOf (Value.int .i64 _)).toNat < N - (intOf (F 5)).toNat
        rw [H5.out]
        simp [intOf]; omega
    have hpn' : (p1 : Int) < (sdn : Int) := by omega
    have p10 : (0 : Int) ≤ (p1 : Int) := by omega
    have p12 : ((p1 : Int)).toNat = p1 := by omega
    have hall := all_any hL7.self (by omega) b15 (hL7.blk HB15.out.1 HB15.out.2).1 (t := newS p' PP1 p'.pool.length) hin7 p1 (by show p1 < p'.preds.length; have := HSN.out; omega)
    clear hL7 hin7 himg7
    go_wp2_with fail
    refine hall.mono ?_
    rintro e W3 ⟨ra3, rn3, rc3, s8, O8', g8, rfl, hin8, himg8, hL8, hrn3⟩
    dsimp only
    have hL8b := hL8.ren HL7.out.kp
    have hb10x := (hL8b.blk HB10z.out.1 HB10z.out.2).1
    obtain ⟨bd, CD, rfl, hbd, hCdl, hsg⟩ := (HCRD.out.sub hL8b.sub).2 p1 _ (pI_at (by have := HSN.out; omega))
    have hbdW := (core_blk hbd).1
    obtain ⟨bb, ebb⟩ : ∃ bb, bb = (pI p' p1).base := ⟨_, rfl⟩
    have hcb : nth CD (p1 * 3 + 1) = some (.bool bb) := by
      rw [ebb]
      exact nth_in (j := 1) hsg (show nth (PredInfo.enc (pI p' p1)) 1 = some (.bool (pI p' p1).base) from rfl) (by omega)
    have hCd3 : p1 * 3 + 1 < CD.length := by
      have h9 : (p1 + 1) * 3 ≤ sdn * 3 := Nat.mul_le_mul_right _ hpn
      omega
    have hb0 : bb = true → rn3 = 0 := fun e9 => hrn3 (fst_base HPV.out HF1.out.1 (by rw [← ebb]; exact e9))
    have HJ3 : Hid (∃ s O g, LS Pz Z3 bs (1000 + 3000 * (i : Int) + 640 + 10 + 10 * ((p1 + 1 : Nat) : Int)) s O g W3 ∧ s.inst = some (newS p' PP1 p'.pool.length) ∧ s.img = s6.img) := ⟨s8, O8', g8, hL8b.le (by omega), hin8, himg8.trans HI7.out.2⟩
    clear hall hin8 himg8 hL8 hrn3 hbd hsg ebb hL8b hCdl
    cases bb with
    | true =>
      have hr0 := hb0 rfl
      subst hr0
      go_wp2_with fail
      refine ⟨rfl, rfl, ⟨rfl, rfl, rfl, rfl, rfl, p1 + 1, by omega, ?_, HJ3.out⟩, ?_⟩
      · show Value.int .i64 _ = _
        go_num
      · show sdn - (intOf (Value.int .i64 _)).toNat < sdn - (intOf (G 16)).toNat
        rw [H16.out]
        simp [intOf]; omega
    | false =>
      clear hb0
      go_wp2_with fail
      refine ⟨rfl, rfl, ⟨rfl, rfl, rfl, rfl, rfl, p1 + 1, by omega, ?_, HJ3.out⟩, ?_⟩
      · show Value.int .i64 _ = _
        go_num
      · show sdn - (intOf (Value.int .i64 _)).toNat < sdn - (intOf (G 16)).toNat
        rw [H16.out]
        simp [intOf]; omega
end Go.Proofs.Qxb6500787aGreat
