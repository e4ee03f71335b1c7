
import Derived.Test.Qxb6500787aGreatUm
import Derived.StillTailTactics
import Derived.Deep.QuietTactic
import Derived.BigQuiet
import Derived.Deep.RegionHeld
import Derived.Deep.CutRange
import Derived.Laws.ResultCell
import Derived.Laws.Rows
import Derived.DeepKeys
import Derived.DataBytes
import Derived.Laws.StructEq
import Derived.Laws.AppendOwn
import Derived.Laws.MakeOwn
import Derived.Lib.AppendStr
set_option linter.unusedSimpArgs false
set_option linter.unusedVariables false
namespace Go.Proofs.Qxb6500787aGreat
open Go.RowKit Go.Blk
attribute [local go_sem ↓] execOp_load execOp_store execOp_alloc
attribute [local go_sem] Tryz.ld26 Tryz.st26 Tryz.ld27 Tryz.st27 Tryz.ld28 Tryz.st28 Tryz.ld3 Tryz.st3 Tryz.ld29 Tryz.st29 Tryz.ld44 Tryz.st44 Tryz.ld4 Tryz.st4 Tryz.ld50 Tryz.st50 Tryz.ld32 Tryz.st32 Tryz.ld49 Tryz.st49 Tryz.ld68 Tryz.st68 Tryz.ld9 Tryz.st9 Tryz.ld40 Tryz.st40 Tryz.ld138 Tryz.st138 Tryz.ld139 Tryz.st139 Tryz.ld146 Tryz.st146 Tryz.ld183 Tryz.st183 Tryz.ld184 Tryz.st184 Tryz.ld192 Tryz.st192 Tryz.ld195 Tryz.st195 Tryz.ld217 Tryz.st217 Tryz.ld159 Tryz.st159 Tryz.ld142 Tryz.st142 Tryz.ld2 Tryz.st2 Tryz.ld5 Tryz.st5 Tryz.ld12 Tryz.st12 Tryz.ld21 Tryz.st21 Tryz.ld22 Tryz.st22 Tryz.ld24 Tryz.st24 Tryz.ld58 Tryz.st58 Tryz.ld97 Tryz.st97 Tryz.ld101 Tryz.st101 Tryz.ld116 Tryz.st116 Tryz.ld121 Tryz.st121 Tryz.ld135 Tryz.st135 Tryz.ld136 Tryz.st136 Tryz.ld143 Tryz.st143 Tryz.ld148 Tryz.st148 Tryz.ld154 Tryz.st154 Tryz.ld173 Tryz.st173 Tryz.ld187 Tryz.st187 Tryz.ld222 Tryz.st222 Tryz.ld241 Tryz.st241 Tryz.ld248 Tryz.st248 Tryz.ld268 Tryz.st268 Tryz.ld272 Tryz.st272 Tryz.ld153 Tryz.st153 Tryz.ld255 Tryz.st255 Tryz.ld256 Tryz.st256 Tryz.ld129 Tryz.st129 Tryz.ld152 Tryz.st152 Tryz.ld31 Tryz.st31 Tryz.ld46 Tryz.st46 Tryz.ld52 Tryz.st52 Tryz.ld54 Tryz.st54 Tryz.ld60 Tryz.st60 Tryz.ld70 Tryz.st70 Tryz.ld74 Tryz.st74 Tryz.ld93 Tryz.st93 Tryz.ld141 Tryz.st141 Tryz.ld151 Tryz.st151 Tryz.ld170 Tryz.st170 Tryz.ld186 Tryz.st186 Tryz.ld189 Tryz.st189 Tryz.ld194 Tryz.st194 Tryz.ld197 Tryz.st197 Tryz.ld219 Tryz.st219 Tryz.ld224 Tryz.st224 Tryz.ld230 Tryz.st230 Tryz.ld235 Tryz.st235 Tryz.ld243 Tryz.st243 Tryz.ld247 Tryz.st247 Tryz.ld252 Tryz.st252 Tryz.ld258 Tryz.st258 Tryz.al153 Tryz.al255 Tryz.al256 Tryz.al129 Tryz.al152 Tryz.al31 Tryz.al46 Tryz.al52 Tryz.al54 Tryz.al60 Tryz.al70 Tryz.al74 Tryz.al93 Tryz.al141 Tryz.al151 Tryz.al170 Tryz.al186 Tryz.al189 Tryz.al194 Tryz.al197 Tryz.al219 Tryz.al224 Tryz.al230 Tryz.al235 Tryz.al243 Tryz.al247 Tryz.al252 Tryz.al258
attribute [local go_sem] Request.length_enc Request.ok_enc Request.all_get Request.all_set Request.kind_get Request.kind_set Request.blob_get Request.blob_set Request.items_get Request.items_set Request.pred_get Request.pred_set Request.slots_get Request.slots_set Trace.length_enc Trace.ok_enc Trace.all_get Trace.all_set Trace.op_get Trace.op_set Trace.calls_get Trace.calls_set Item.length_enc Item.ok_enc Item.all_get Item.all_set Item.del_get Item.del_set Item.pred_get Item.pred_set Item.args_get Item.args_set Reply.length_enc Reply.ok_enc Reply.all_get Reply.all_set Reply.code_get Reply.code_set Reply.kind_get Reply.kind_set Reply.index_get Reply.index_set Reply.yes_get Reply.yes_set Reply.preds_get Reply.preds_set Reply.rules_get Reply.rules_set Reply.arity_get Reply.arity_set Reply.rows_get Reply.rows_set Reply.fact_get Reply.fact_set Reply.fact_del_get Reply.fact_del_set Reply.fact_pred_get Reply.fact_pred_set Reply.fact_args_get Reply.fact_args_set GEntry.length_enc GEntry.ok_enc GEntry.all_get GEntry.all_set GEntry.seq_get GEntry.seq_set GEntry.kind_get GEntry.kind_set GEntry.code_get GEntry.code_set GOp.length_enc GOp.ok_enc GOp.all_get GOp.all_set GOp.kind_get GOp.kind_set GOp.raw_get GOp.raw_set Reader.length_enc Reader.ok_enc Reader.all_get Reader.all_set Reader.buf_get Reader.buf_set Reader.at__get Reader.at__set Slot.length_enc Slot.ok_enc Slot.all_get Slot.all_set Slot.bound_get Slot.bound_set Slot.name_get Slot.name_set Session.length_enc Session.ok_enc Session.all_get Session.all_set Session.svc_get Session.svc_set Session.buf_get Session.buf_set Session.closed_get Session.closed_set GProgram.length_enc GProgram.ok_enc GProgram.all_get GProgram.all_set GProgram.pool_get GProgram.pool_set GProgram.preds_get GProgram.preds_set GProgram.rules_get GProgram.rules_set GProgram.strata_get GProgram.strata_set PredInfo.length_enc PredInfo.ok_enc PredInfo.all_get PredInfo.all_set PredInfo.arity_get PredInfo.arity_set PredInfo.base_get PredInfo.base_set PredInfo.stratum_get PredInfo.stratum_set Change.length_enc Change.ok_enc Change.all_get Change.all_set Change.del_get Change.del_set Change.pred_get Change.pred_set Change.t_get Change.t_set Store.length_enc Store.ok_enc Store.all_get Store.all_set Store.names_get Store.names_set Store.arity_get Store.arity_set Store.rows_get Store.rows_set Src.length_enc Src.ok_enc Src.all_get Src.all_set Src.b_get Src.b_set Src.at__get Src.at__set Atom.length_enc Atom.ok_enc Atom.all_get Atom.all_set Atom.pred_get Atom.pred_set Atom.args_get Atom.args_set GRule.length_enc GRule.ok_enc GRule.all_get GRule.all_set GRule.head_get GRule.head_set GRule.body_get GRule.body_set GRule.head_pred_get GRule.head_pred_set GRule.head_args_get GRule.head_args_set Cert.length_enc Cert.ok_enc Cert.all_get Cert.all_set Cert.names_get Cert.names_set Cert.nodes_get Cert.nodes_set Fact.length_enc Fact.ok_enc Fact.all_get Fact.all_set Fact.pred_get Fact.pred_set Fact.t_get Fact.t_set Literal.length_enc Literal.ok_enc Literal.all_get Literal.all_set Literal.neg_get Literal.neg_set Literal.atom_get Literal.atom_set Literal.atom_pred_get Literal.atom_pred_set Literal.atom_args_get Literal.atom_args_set Engine.length_enc Engine.ok_enc Engine.all_get Engine.all_set Engine.prog_get Engine.prog_set Engine.st_get Engine.st_set SrcCertm.length_enc SrcCertm.ok_enc SrcCertm.all_get SrcCertm.all_set SrcCertm.b_get SrcCertm.b_set SrcCertm.at__get SrcCertm.at__set GNode.length_enc GNode.ok_enc GNode.all_get GNode.all_set GNode.rule_get GNode.rule_set GNode.pred_get GNode.pred_set GNode.vals_get GNode.vals_set GNode.refs_get GNode.refs_set Term.length_enc Term.ok_enc Term.all_get Term.all_set Term.var_get Term.var_set Term.n_get Term.n_set Env.length_enc Env.ok_enc Env.all_get Env.all_set Env.val_get Env.val_set Env.set_get Env.set_set
attribute [local go_sem] size_put size_ext blk_put free_put blk_alloc free_alloc blk_drew free_drew blk_ext free_ext lookOr_some putOr_some segAt_some cellAt_some storeIn_some put_put put_alloc_new length_arr ok_arr_u8 ok_arr_u32 ok_arr_u64 ok_arr_i64 ok_arr_sl cellsV_agg cellsV_int cellsV_bool cellsV_string cellsV_pointer cellsV_slice cellsV_sl ok_int ok_bool ok_string ok_pointer ok_slice ok_sl toList_arr seg_arr set_arr nth_splice nth_splice0 seg_splice seg_splice0 splice_splice splice_splice0 length_splice_if
attribute [local go_sem ↓] execOp_box
attribute [local go_sem] box_run nth_arr_u8 put_arr_u8 blk_drewN free_drewN put_drewN blk_raw free_raw
def nodV (t w : Nat) : Option (List Int × List UInt8) → Int × CNode × List UInt8
  | none => (29, nodZ, [])
  | some (vals, r3) => nodB t w vals r3
def nodR (t : Nat) : List UInt8 → Int × CNode × List UInt8
  | [] => (29, nodZ, [])
  | w :: r2 => nodV t w.toNat (refsD r2)
theorem nodeD_big {t : UInt8} {r : List UInt8} (h : 1 < t.toNat) : nodeD (t :: r) = (32, nodZ, []) := by
  show (if _ then _ else _) = _
  rw [if_pos h]
theorem nodeD_small {t : UInt8} {r : List UInt8} (h : ¬ 1 < t.toNat) : nodeD (t :: r) = nodR t.toNat r := by
  show (if _ then _ else _) = _
  rw [if_neg h]
  match r with
  | [] => rfl
  | w :: r2 =>
    show (match refsD r2 with | none => _ | some (vals, r3) => _) = nodV t.toNat w.toNat (refsD r2)
    cases refsD r2 with
    | none => rfl
    | some q => obtain ⟨vals, r3⟩ := q; rfl
attribute [local go_sem ↓] execOp_build execOp_bslice execOp_slice execOp_convert
attribute [local go_sem] build243 build247a build247b bslice217 bslice50 rd_len rd0 rd1 rd_set1
set_option maxRecDepth 100000 in
theorem frame170c (f : Nat → Value) : frameN 170 f = #[f 0, f 1, f 2, f 3, f 4, f 5, f 6, f 7, f 8, f 9, f 10, f 11, f 12, f 13, f 14, f 15, f 16, f 17, f 18, f 19, f 20, f 21, f 22, f 23, f 24, f 25, f 26, f 27, f 28, f 29, f 30, f 31, f 32, f 33, f 34, f 35, f 36, f 37, f 38, f 39, f 40, f 41, f 42, f 43, f 44, f 45, f 46, f 47, f 48, f 49, f 50, f 51, f 52, f 53, f 54, f 55, f 56, f 57, f 58, f 59, f 60, f 61, f 62, f 63, f 64, f 65, f 66, f 67, f 68, f 69, f 70, f 71, f 72, f 73, f 74, f 75, f 76, f 77, f 78, f 79, f 80, f 81, f 82, f 83, f 84, f 85, f 86, f 87, f 88, f 89, f 90, f 91, f 92, f 93, f 94, f 95, f 96, f 97, f 98, f 99, f 100, f 101, f 102, f 103, f 104, f 105, f 106, f 107, f 108, f 109, f 110, f 111, f 112, f 113, f 114, f 115, f 116, f 117, f 118, f 119, f 120, f 121, f 122, f 123, f 124, f 125, f 126, f 127, f 128, f 129, f 130, f 131, f 132, f 133, f 134, f 135, f 136, f 137, f 138, f 139, f 140, f 141, f 142, f 143, f 144, f 145, f 146, f 147, f 148, f 149, f 150, f 151, f 152, f 153, f 154, f 155, f 156, f 157, f 158, f 159, f 160, f 161, f 162, f 163, f 164, f 165, f 166, f 167, f 168, f 169] := by kernel_rfl
set_option maxRecDepth 40000 in
set_option maxHeartbeats 8000000 in
theorem cdec_any (W : World) (a : Option Addr) (n c : Nat) (hn : n ≤ 65536) (hnc : n ≤ c) (hc : c ≤ 9223372036854775807) (xs : List UInt8) (hX : Bs W a n xs) : Calls Tryz.prog 149 #[.slice a n c] W (CdPost W (decC xs)) := by
  obtain ⟨Q, hQ⟩ : ∃ Q, Q = CdPost W (decC xs) := ⟨_, rfl⟩
  rw [← hQ]
  have HQ := hid_of hQ
  have HX := hid_of hX
  have HXL := hid_of hX.1
  have HBAD : Hid (∀ (O : Own) (V : World) (bs b2 b4 : Nat) (x : Cert) (q : CC) (p : Nat), CdS W bs b2 b4 a n c x q p O V → ∀ cd, cd ≠ 0 → (decC xs).1 = cd → Q (.returned (.tuple #[.agg x.enc.toArray, .int .i64 cd])) (put V b2 x.enc)) := by
    intro O V bs b2 b4 x q p h cd h1 h2
    rw [HQ.out, ← h2]
    have hF := (h.s2.put x.enc).1
    exact ⟨x, rfl, (h.bl.step hF (fun e => by have := (Lab.a.inj e).1; omega)).ext, fun e => absurd (h2.symm.trans e) h1⟩
  clear hX hQ
  go_enter Tryz.func149, Tryz.ntmps149
  go_upto_region 3 with fail
  refine wp_world (fun V => ∃ O, CdS W (W.heap.size + 2) W.heap.size (W.heap.size + 1) a n c Cert.zero ([], []) 0 O V) ?_ ?_
  · have s1 := Sc.new (W := W) (O := fun _ => .a 6 2) (V := W) (Nat.le_refl _) (Cert.zero.enc).toArray 179
    have B1 := (Bl0.refl W).step s1.1 (fun e => e)
    have s2 := Sc.new (W := W) (O := lab (fun _ => .a 6 2) W.heap.size (.a 0 9)) (V := W.alloc (.cells (Cert.zero.enc).toArray 179)) s1.1.size (Cert.zero.enc).toArray 179
    have B2 := B1.step s2.1 (fun e => e)
    have hS1 := s1.2.fr s2.1 (fun e => e)
    have hS2 := s2.2
    obtain ⟨V1, hV1⟩ : ∃ V1, V1 = (W.alloc (.cells (Cert.zero.enc).toArray 179)).alloc (.cells (Cert.zero.enc).toArray 179) := ⟨_, rfl⟩
    obtain ⟨O1, hO1⟩ : ∃ O1, O1 = lab (lab (fun _ => .a 6 2) W.heap.size (.a 0 9)) (W.alloc (.cells (Cert.zero.enc).toArray 179)).heap.size (.a 0 9) := ⟨_, rfl⟩
    rw [← hV1, ← hO1] at B2 hS1 hS2
    have hsz : V1.heap.size = W.heap.size + 2 := by rw [hV1, World.size_alloc, World.size_alloc]
    rw [← hV1]
    have hx : V1.Extends (V1.alloc (.cells (rdE a n c 0).toArray 290)) := extends_alloc (ext_Ext (Ext.refl _)) _
    have hF : Fr (fun _ => False) O1 V1 (lab O1 V1.heap.size (.a 6 0)) (V1.alloc (.cells (rdE a n c 0).toArray 290)) := ⟨hx.os, hx.tape, hx.output, hx.size, fun k hk => lab_lt hk, fun k hk _ => hx.block k hk⟩
    refine ⟨lab O1 V1.heap.size (.a 6 0), B2.step hF (fun e => e), by rw [← hsz]; exact lab_ge (Nat.le_refl _), hS1.fr hF (fun e => e), ?_, ⟨RowL.nil _ _ _ _ _ _, [], RowL.nil _ _ _ _ _ _, rfl, fun i l p h => by simp at h⟩, ?_⟩
    · have h9 := hS2.fr hF (fun e => e)
      rw [World.size_alloc] at h9
      exact h9
    · exact ⟨by rw [blk_alloc, if_pos hsz.symm]; rfl, by rw [free_alloc, if_pos hsz.symm], (B2.ext).trans hx, by omega, by omega⟩
  intro V1 HV1
  try simp only [World.size_alloc]
  obtain ⟨bs, hbs⟩ : ∃ bs, bs = W.heap.size + 2 := ⟨_, rfl⟩
  obtain ⟨b4, hb4⟩ : ∃ b4, b4 = W.heap.size + 1 := ⟨_, rfl⟩
  obtain ⟨b2, hb2⟩ : ∃ b2, b2 = W.heap.size := ⟨_, rfl⟩
  first | rw [← hbs, ← hb4, ← hb2] at HV1 ⊢ | (rw [← hbs, ← hb4, ← hb2] at HV1; rw [show W.heap.size + 1 + 1 = bs by omega, ← hb4, ← hb2])
  have n24 : ¬ b2 = b4 := by omega
  have n42 : ¬ b4 = b2 := by omega
  have nb4 : ¬ bs = b4 := by omega
  have n4b : ¬ b4 = bs := by omega
  have nb2 : ¬ bs = b2 := by omega
  have HN24 : Hid (b2 ≠ b4) := n24
  clear hbs hb4 hb2
  obtain ⟨O1, hS1⟩ := HV1
  have hcall := two_any W V1 bs a n c 0 hS1.rd hn hnc hc xs HX.out
  have HS1 := hid_of hS1
  clear hS1
  go_wp2_with fail
  refine hcall.mono ?_
  rintro e V2 ⟨K, ok, p2, rfl, hK, hT, hR2, hSd2⟩
  dsimp only
  have hS2 := HS1.out.call hSd2 hR2
  have hb2 := hS2.s2.cell
  have hf2 := hS2.s2.fre
  have hb4 := hS2.s4.cell
  have hf4 := hS2.s4.fre
  rcases hT with ⟨rfl, u, v, hd, hv⟩ | ⟨rfl, hsh⟩
  rotate_left 1
  · have HP := hid_of (HBAD.out _ V2 bs b2 b4 _ _ p2 hS2 29 (by decide) (by rw [List.drop_zero] at hsh; rw [decC_short hsh]))
    clear hcall hSd2 hR2 hS2 hsh
    go_wp2_with fail
    refine ret_cell_tmp (C := Cert.zero.enc) rfl rfl rfl ?_ (by kernel_rfl) (by rw [Cert.length_enc]; kernel_rfl) rfl HP.out
    first | (rw [blk_put, if_pos rfl, hb2]; rfl) | (simp only [blk_put, if_true, hb2, Option.map_some]; try rfl)
  obtain ⟨tot, htot⟩ : ∃ tot, tot = goCN K [] (xs.drop p2) := ⟨_, rfl⟩
  have HG : Hid (decC xs = if tot.1 ≠ 0 then (tot.1, [], []) else decCn tot.2.1 tot.2.2) := by
    show _ = _
    rw [List.drop_zero] at hd
    rw [htot, hv]
    conv => lhs; rw [hd]
    rfl
  have HI0 : Hid (∃ O na nc L p, CdS W bs b2 b4 a n c ⟨⟨na, 0, nc⟩, ⟨none, 0, 0⟩⟩ (L, []) p O V2 ∧ L.length = 0 ∧ goCN (K - 0) L (xs.drop p) = tot) := ⟨_, none, 0, [], p2, hS2, rfl, htot.symm⟩
  clear hcall hSd2 hR2 hS2 hd hv htot hb2 hf2 hb4 hf4 HS1
  go_upto_region 7 with fail
  refine wp_loop_f 170 (cd1I W bs b2 b4 a n c xs K tot) (fun f _ => K - (intOf (f 8)).toNat) rfl ⟨rfl, rfl, rfl, rfl, rfl, 0, by omega, rfl, HI0⟩ ?_
  clear HI0
  intro F V hrel
  obtain ⟨f0, f2, f4, f5, f6, i, hi, f8, HI⟩ := hrel
  have H8 := hid_of f8
  rw [frame170c, f0, f2, f4, f5, f6, f8]
  clear f0 f2 f4 f5 f6 f8
  obtain ⟨O3, na, nc, L, p3, hS, hLi, hgo⟩ := HI.out
  have hb2 := hS.s2.cell
  have hf2 := hS.s2.fre
  have hb4 := hS.s4.cell
  have hf4 := hS.s4.fre
  have HS := hid_of hS
  have HLI := hid_of hLi
  by_cases hin : i < K
  · have hin' : (i : Int) < (K : Int) := by omega
    have hcall := one_any W V bs a n c p3 hS.rd hn hnc hc xs HX.out
    obtain ⟨m, hm⟩ : ∃ m, K - i = m + 1 := ⟨K - i - 1, by omega⟩
    rw [hm] at hgo
    have HGO := hid_of hgo
    have HM := hid_of hm
    clear HI hS hLi hgo hm hb2 hf2 hb4 hf4
    go_wp2_with fail
    refine hcall.mono ?_
    rintro e V6 ⟨k3, ok3, p6, rfl, hN3, hR6, hS6⟩
    dsimp only
    have hC6 := HS.out.call hS6 hR6
    have hb2 := hC6.s2.cell
    have hf2 := hC6.s2.fre
    have hb4 := hC6.s4.cell
    have hf4 := hC6.s4.fre
    have hbs := hC6.rd.1
    have hfs := hC6.rd.2.1
    have hk3 := hN3.lt
    have hp6n := hC6.rd.2.2.2.2
    rcases hN3.cases with ⟨rfl, x, hx, hdx⟩ | ⟨rfl, hdx, hp6⟩
    rotate_left 1
    · have HP := hid_of (HBAD.out _ V6 bs b2 b4 _ _ p6 hC6 29 (by decide) (by
        have e1 : tot = (29, [], []) := by rw [← HGO.out, hdx]; rfl
        rw [HG.out, e1]; rfl))
      clear hcall hS6 hR6 hC6 hN3 hdx hp6
      go_wp2_with fail
      refine ret_cell_tmp (C := Cert.enc ⟨⟨na, i, nc⟩, ⟨none, 0, 0⟩⟩) rfl rfl rfl ?_ (by kernel_rfl) (by rw [Cert.length_enc]; kernel_rfl) rfl HP.out
      first | (rw [blk_put, if_pos rfl, hb2]; rfl) | (simp only [blk_put, if_true, hb2, Option.map_some]; try rfl)
    have hgc : tot = if 64 < k3 then (31, [], []) else if (xs.drop p6).length < k3 then (29, [], []) else goCN m (L ++ [(xs.drop p6).take k3]) ((xs.drop p6).drop k3) := by
      rw [← HGO.out, hdx, goCN_cons, hx]
    have HGC := hid_of hgc
    have HC6 := hid_of hC6
    have hdl : (xs.drop p6).length = n - p6 := by rw [List.length_drop, HXL.out]
    have HDL := hid_of hdl
    clear hcall hS6 hR6 hC6 hN3 hdx hx hgc hdl
    by_cases h64 : 64 < k3
    · have h64' : (64 : Int) < (k3 : Int) := by omega
      have HP := hid_of (HBAD.out _ V6 bs b2 b4 _ _ p6 HC6.out 31 (by decide) (by
        have e1 := HGC.out
        rw [if_pos h64] at e1
        rw [HG.out, e1]; rfl))
      go_wp2_with fail
      refine ret_cell_tmp (C := Cert.enc ⟨⟨na, i, nc⟩, ⟨none, 0, 0⟩⟩) rfl rfl rfl ?_ (by kernel_rfl) (by rw [Cert.length_enc]; kernel_rfl) rfl HP.out
      first | (rw [blk_put, if_pos rfl, hb2]; rfl) | (simp only [blk_put, if_true, hb2, Option.map_some]; try rfl)
    have h64' : ¬ (64 : Int) < (k3 : Int) := by omega
    have hw1 : IntKind.i64.wrap ((p6 : Int) + (k3 : Int)) = (p6 : Int) + (k3 : Int) := by rw [IntKind.wrap_i64]; omega
    by_cases hlk : n < p6 + k3
    · have hlk' : (n : Int) < (p6 : Int) + (k3 : Int) := by omega
      have HP := hid_of (HBAD.out _ V6 bs b2 b4 _ _ p6 HC6.out 29 (by decide) (by
        have e1 := HGC.out
        rw [if_neg h64, if_pos (by rw [HDL.out]; omega)] at e1
        rw [HG.out, e1]; rfl))
      go_wp2_with fail
      refine ret_cell_tmp (C := Cert.enc ⟨⟨na, i, nc⟩, ⟨none, 0, 0⟩⟩) rfl rfl rfl ?_ (by kernel_rfl) (by rw [Cert.length_enc]; kernel_rfl) rfl HP.out
      first | (rw [blk_put, if_pos rfl, hb2]; rfl) | (simp only [blk_put, if_true, hb2, Option.map_some]; try rfl)
    have hlk' : ¬ (n : Int) < (p6 : Int) + (k3 : Int) := by omega
    obtain ⟨nm, hnm⟩ : ∃ nm, nm = (xs.drop p6).take k3 := ⟨_, rfl⟩
    have HGE : Hid (tot = goCN m (L ++ [nm]) (xs.drop (p6 + k3))) := by
      show _ = _
      rw [HGC.out, if_neg h64, if_neg (by rw [HDL.out]; omega), ← hnm, List.drop_drop]
    have hsl : ∀ W', (sliceOp 31 (.slice a n c) (some (.int .i64 (p6 : Int))) (some (.int .i64 ((p6 : Int) + (k3 : Int)))) none).run Tryz.prog W' = .ok (.value (.slice (cutA a p6 c) k3 (c - p6))) W' := fun W' => by
      have := Tryz.sl27 W' a n c p6 (p6 + k3) (by omega) (by omega)
      rw [show p6 + k3 - p6 = k3 by omega] at this
      rw [← this]; congr 3
    have hcv : ∀ W', W.Extends W' → (convOp 31 9 (.slice (cutA a p6 c) k3 (c - p6))).run Tryz.prog W' = .ok (.value (.string ⟨nm.toArray⟩)) W' := fun W' hx => by
      have := conv_str (c := c - p6) ((HX.out.grow hx).cut (l := p6) (k := k3) (cap := c) (by omega) hnc)
      rw [← hnm] at this
      exact this
    have HCV := hid_of hcv
    have hC7 := HC6.out.drewN 1
    have hV7 : V6.drewN 1 = V6.drew := rfl
    rw [hV7] at hC7
    obtain ⟨a2, c2, V9, hrun, hrow9, hF9⟩ := appL encS 1 16 43 9 el50.und el50.info el50.len el50.one el50.pos el50.small 43 nm hC7.ct.names hC7.bl.fr.size (by have := HLI.out; show L.length ≤ _; omega) (encS nm).toArray rfl 1
    have hrun' : (Builtin.append_ #[43, 43] 43 #[.slice na i nc, .slice (some ⟨V6.heap.size, 0, none⟩) 1 1]).run Tryz.prog (V6.drew.alloc (.cells (encS nm).toArray 9)) = .ok (.slice a2 (i + 1) c2) V9 := hrun
    have hx9 : W.Extends V9 := (hC7.bl.step hF9 (fun e => by have := (Lab.a.inj e).2; omega)).ext
    have hB9 := hC7.bl.step hF9 (fun e => by have := (Lab.a.inj e).2; omega)
    have hs29 := hC7.s2.fr hF9 (fun e => by have := (Lab.a.inj e).1; omega)
    have hs49 := hC7.s4.fr hF9 (fun e => by have := (Lab.a.inj e).1; omega)
    have ho9 := (hF9.keep bs (blk_lt hC7.rd.1)).trans hC7.ob
    have hR9 := hC7.bl.rdr hC7.ob hC7.rd hF9 (fun e => by have := (Lab.a.inj e).2; omega) (fun e => by have := (Lab.a.inj e).2; omega)
    have hp9 := hs49.put (Cert.enc ⟨⟨a2, i + 1, c2⟩, ⟨none, 0, 0⟩⟩)
    have hCS : CdS W bs b2 b4 a n c ⟨⟨a2, i + 1, c2⟩, ⟨none, 0, 0⟩⟩ (L ++ [nm], []) p6 (lab (lab O3 V.heap.size .no) V6.drew.heap.size (.a 6 1)) (put V9 b4 (Cert.enc ⟨⟨a2, i + 1, c2⟩, ⟨none, 0, 0⟩⟩)) := by
      obtain ⟨Gs, g1, g2⟩ := hC7.ct.nodes
      have hsb := Sub.ext (core_fr hF9 (fun e => by cases e))
      have hct : CtM W (lab (lab O3 V.heap.size .no) V6.drew.heap.size (.a 6 1)) V9 ⟨⟨a2, i + 1, c2⟩, ⟨none, 0, 0⟩⟩ (L ++ [nm], []) := ⟨hrow9, Gs, g1.fr hF9 (fun e => by have := (Lab.a.inj e).2; omega), g2.sub hsb⟩
      exact ⟨hB9.step hp9.1 (fun e => by have := (Lab.a.inj e).1; omega), ho9, hs29.putO HN24.out, hp9.2, hct.fr hp9.1 (fun e => by cases e) (fun e => by have := (Lab.a.inj e).1; omega) (fun e => by have := (Lab.a.inj e).1; omega), hB9.rdr ho9 hR9 hp9.1 (fun e => by have := (Lab.a.inj e).1; omega) (fun e => by have := (Lab.a.inj e).1; omega)⟩
    have hCS2 := hCS.put (p' := p6 + k3) (by omega)
    have e8 : ((p6 + k3 : Nat) : Int) = (p6 : Int) + (k3 : Int) := by omega
    have HI' : Hid (∃ O na nc L p, CdS W bs b2 b4 a n c ⟨⟨na, i + 1, nc⟩, ⟨none, 0, 0⟩⟩ (L, []) p O (put (put V9 b4 (Cert.enc ⟨⟨a2, i + 1, c2⟩, ⟨none, 0, 0⟩⟩)) bs (rdE a n c ((p6 : Int) + (k3 : Int)))) ∧ L.length = i + 1 ∧ goCN (K - (i + 1)) L (xs.drop p) = tot) := by
      rw [← e8]
      refine ⟨_, a2, c2, L ++ [nm], p6 + k3, hCS2, by rw [List.length_append, HLI.out]; rfl, ?_⟩
      have e2 : K - (i + 1) = m := by have := HM.out; omega
      rw [e2]; exact HGE.out.symm
    have hSd : blk V6.drew bs = some (rdE a n c (p6 : Nat)) ∧ (convOp 31 9 (.slice (cutA a p6 c) k3 (c - p6))).run Tryz.prog V6.drew = .ok (.value (.string ⟨nm.toArray⟩)) V6.drew := ⟨hbs, HCV.out _ (hC7.bl.ext)⟩
    have hSa : ∀ (A : Array Value) (e : TypeId), blk (V6.drew.alloc (.cells A e)) bs = some (rdE a n c (p6 : Nat)) ∧ (convOp 31 9 (.slice (cutA a p6 c) k3 (c - p6))).run Tryz.prog (V6.drew.alloc (.cells A e)) = .ok (.value (.string ⟨nm.toArray⟩)) (V6.drew.alloc (.cells A e)) := fun A e => ⟨by rw [blk_alloc, if_neg (by have := blk_lt hbs; show ¬ bs = V6.heap.size; omega)]; exact hbs, HCV.out _ (extends_alloc hC7.bl.ext _)⟩
    have hS9 : blk V9 bs = some (rdE a n c (p6 : Nat)) ∧ (convOp 31 9 (.slice (cutA a p6 c) k3 (c - p6))).run Tryz.prog V9 = .ok (.value (.string ⟨nm.toArray⟩)) V9 := ⟨hR9.1, HCV.out _ hx9⟩
    have hSp : blk (put V9 b4 (Cert.enc ⟨⟨a2, i + 1, c2⟩, ⟨none, 0, 0⟩⟩)) bs = some (rdE a n c (p6 : Nat)) ∧ (convOp 31 9 (.slice (cutA a p6 c) k3 (c - p6))).run Tryz.prog (put V9 b4 (Cert.enc ⟨⟨a2, i + 1, c2⟩, ⟨none, 0, 0⟩⟩)) = .ok (.value (.string ⟨nm.toArray⟩)) (put V9 b4 (Cert.enc ⟨⟨a2, i + 1, c2⟩, ⟨none, 0, 0⟩⟩)) := ⟨hCS.rd.1, HCV.out _ hCS.bl.ext⟩
    have hb49 := hs49.cell
    have hf49 := hs49.fre
    have hbs9 : blk V9 bs = some (rdE a n c (p6 : Nat)) := hR9.1
    have hfs9 : free V9 bs = true := hR9.2.1
    have hlt4 : ¬ b4 = V6.heap.size := by have := blk_lt hb4; omega
    have hlts : ¬ bs = V6.heap.size := by have := blk_lt hbs; omega
    have hb4d : blk V6.drew b4 = some (Cert.enc ⟨⟨na, i, nc⟩, ⟨none, 0, 0⟩⟩) := hb4
    have hb4a : ∀ (A : Array Value) (e : TypeId), blk (V6.drew.alloc (.cells A e)) b4 = some (Cert.enc ⟨⟨na, i, nc⟩, ⟨none, 0, 0⟩⟩) := fun A e => by rw [blk_alloc, if_neg (by have := blk_lt hb4; show ¬ b4 = V6.heap.size; omega)]; exact hb4
    clear hnm HGC HDL hcv hC7 hV7 hrun hrow9 hF9 hx9 hB9 hs29 hs49 ho9 hR9 hp9 hCS hCS2 e8 HC6 HS
    go_upto_region 16 with fail
    refine wp_region_held_drew (S := fun W' => blk W' bs = some (rdE a n c (p6 : Nat)) ∧ (convOp 31 9 (.slice (cutA a p6 c) k3 (c - p6))).run Tryz.prog W' = .ok (.value (.string ⟨nm.toArray⟩)) W') (by kernel_rfl) hSd (fun hHeld => ?_)
    refine wpAnyH_take (i := 0) (oi := ⟨_, _, _, _, _, _⟩) (v := ?_) rfl (by kernel_rfl) (by kernel_rfl) (by kernel_rfl) (fun _ _ _ h => h) (Or.inl ⟨by rfl, ?_⟩) (by assumption) ?_
    rotate_left 1
    · intro W' hSw
      obtain ⟨hS1, hS2⟩ := hSw
      go_simp
      try with_reducible rfl
    try simp only [Act.put, List.setIfInBounds_toArray, List.set_cons_zero, List.set_cons_succ]
    refine wpAnyH_take (i := 2) (oi := ⟨_, _, _, _, _, _⟩) (v := ?_) rfl (by kernel_rfl) (by kernel_rfl) (by kernel_rfl) (fun _ _ _ h => h) (Or.inl ⟨by rfl, ?_⟩) (by assumption) ?_
    rotate_left 1
    · intro W' hSw
      obtain ⟨hS1, hS2⟩ := hSw
      go_simp
      try with_reducible rfl
    try simp only [Act.put, List.setIfInBounds_toArray, List.set_cons_zero, List.set_cons_succ]
    refine wpAnyH_take (i := 3) (oi := ⟨_, _, _, _, _, _⟩) (v := ?_) rfl (by kernel_rfl) (by kernel_rfl) (by kernel_rfl) (fun _ _ _ h => h) (Or.inl ⟨by rfl, ?_⟩) (by assumption) ?_
    rotate_left 1
    · intro W' hSw
      obtain ⟨hS1, hS2⟩ := hSw
      go_simp
      try with_reducible rfl
    try simp only [Act.put, List.setIfInBounds_toArray, List.set_cons_zero, List.set_cons_succ]
    refine wpAnyH_take (i := 4) (oi := ⟨_, _, _, _, _, _⟩) (v := ?_) rfl (by kernel_rfl) (by kernel_rfl) (by kernel_rfl) (fun _ _ _ h => h) (Or.inl ⟨by rfl, ?_⟩) (by assumption) ?_
    rotate_left 1
    · intro W' hSw
      obtain ⟨hS1, hS2⟩ := hSw
      go_simp
      try with_reducible rfl
    try simp only [Act.put, List.setIfInBounds_toArray, List.set_cons_zero, List.set_cons_succ]
    refine wpAnyH_take (i := 5) (oi := ⟨_, _, _, _, _, _⟩) (v := ?_) rfl (by kernel_rfl) (by kernel_rfl) (by kernel_rfl) (fun _ _ _ h => h) (Or.inl ⟨by rfl, ?_⟩) (by assumption) ?_
    rotate_left 1
    · intro W' hSw
      obtain ⟨hS1, hS2⟩ := hSw
      go_simp
      try with_reducible rfl
    try simp only [Act.put, List.setIfInBounds_toArray, List.set_cons_zero, List.set_cons_succ]
    refine wpAnyH_take (i := 6) (oi := ⟨_, _, _, _, _, _⟩) (v := ?_) rfl (by kernel_rfl) (by kernel_rfl) (by kernel_rfl) (fun _ _ _ h => h) (Or.inl ⟨by rfl, ?_⟩) (by assumption) ?_
    rotate_left 1
    · intro W' hSw
      obtain ⟨hS1, hS2⟩ := hSw
      go_simp
      try with_reducible rfl
    try simp only [Act.put, List.setIfInBounds_toArray, List.set_cons_zero, List.set_cons_succ]
    refine wpAnyH_take (i := 7) (oi := ⟨_, _, _, _, _, _⟩) (v := ?_) rfl (by kernel_rfl) (by kernel_rfl) (by kernel_rfl) (fun _ _ _ h => h) (Or.inl ⟨by rfl, ?_⟩) (by assumption) ?_
    rotate_left 1
    · intro W' hSw
      obtain ⟨hS1, hS2⟩ := hSw
      go_simp
      try with_reducible rfl
    try simp only [Act.put, List.setIfInBounds_toArray, List.set_cons_zero, List.set_cons_succ]
    refine wpAnyH_take (i := 8) (oi := ⟨_, _, _, _, _, _⟩) (v := ?_) rfl (by kernel_rfl) (by kernel_rfl) (by kernel_rfl) (fun _ _ _ h => h) (Or.inl ⟨by rfl, ?_⟩) (by assumption) ?_
    rotate_left 1
    · intro W' hSw
      obtain ⟨hS1, hS2⟩ := hSw
      go_simp
      try with_reducible rfl
    try simp only [Act.put, List.setIfInBounds_toArray, List.set_cons_zero, List.set_cons_succ]
    refine wpAnyH_take (i := 9) (oi := ⟨_, _, _, _, _, _⟩) (v := ?_) rfl (by kernel_rfl) (by kernel_rfl) (by kernel_rfl) (fun _ _ _ h => h) (Or.inl ⟨by rfl, ?_⟩) (by assumption) ?_
    rotate_left 1
    · intro W' hSw
      obtain ⟨hS1, hS2⟩ := hSw
      go_simp
      try with_reducible rfl
    try simp only [Act.put, List.setIfInBounds_toArray, List.set_cons_zero, List.set_cons_succ]
    refine wpAnyH_take (i := 10) (oi := ⟨_, _, _, _, _, _⟩) (v := ?_) rfl (by kernel_rfl) (by kernel_rfl) (by kernel_rfl) (fun _ _ _ h => h) (Or.inl ⟨by rfl, ?_⟩) (by assumption) ?_
    rotate_left 1
    · intro W' hSw
      obtain ⟨hS1, hS2⟩ := hSw
      go_simp
      try with_reducible rfl
    try simp only [Act.put, List.setIfInBounds_toArray, List.set_cons_zero, List.set_cons_succ]
    refine wpAnyH_take (i := 11) (oi := ⟨_, _, _, _, _, _⟩) (v := ?_) rfl (by kernel_rfl) (by kernel_rfl) (by kernel_rfl) (fun _ _ _ h => h) (Or.inl ⟨by rfl, ?_⟩) (by assumption) ?_
    rotate_left 1
    · intro W' hSw
      obtain ⟨hS1, hS2⟩ := hSw
      go_simp
      try with_reducible rfl
    try simp only [Act.put, List.setIfInBounds_toArray, List.set_cons_zero, List.set_cons_succ]
    refine wpAnyH_take (i := 12) (oi := ⟨_, _, _, _, _, _⟩) (v := ?_) rfl (by kernel_rfl) (by kernel_rfl) (by kernel_rfl) (fun _ _ _ h => h) (Or.inl ⟨by rfl, ?_⟩) (by assumption) ?_
    rotate_left 1
    · intro W' hSw
      obtain ⟨hS1, hS2⟩ := hSw
      go_simp
      try with_reducible rfl
    try simp only [Act.put, List.setIfInBounds_toArray, List.set_cons_zero, List.set_cons_succ]
    refine wpAnyH_take (i := 13) (oi := ⟨_, _, _, _, _, _⟩) (v := ?_) rfl (by kernel_rfl) (by kernel_rfl) (by kernel_rfl) (fun _ _ _ h => h) (Or.inl ⟨by rfl, ?_⟩) (by assumption) ?_
    rotate_left 1
    · intro W' hSw
      obtain ⟨hS1, hS2⟩ := hSw
      go_simp
      try with_reducible rfl
    try simp only [Act.put, List.setIfInBounds_toArray, List.set_cons_zero, List.set_cons_succ]
    refine wpAnyH_take (i := 14) (oi := ⟨_, _, _, _, _, _⟩) (v := ?_) rfl (by kernel_rfl) (by kernel_rfl) (by kernel_rfl) (fun _ _ _ h => h) (Or.inl ⟨by rfl, ?_⟩) (by assumption) ?_
    rotate_left 1
    · intro W' hSw
      obtain ⟨hS1, hS2⟩ := hSw
      go_simp
      try with_reducible rfl
    try simp only [Act.put, List.setIfInBounds_toArray, List.set_cons_zero, List.set_cons_succ]
    refine wpAnyH_ready (rs := [1, 15]) (by kernel_rfl) (by simp) ?_
    refine AllReadyH.cons (o := ⟨_, _, _, _, _, _⟩) rfl (fun K' hK => ?_) (AllReadyH.cons (o := ⟨_, _, _, _, _, _⟩) rfl (fun K' hK => ?_) AllReadyH.nil)
    · go_simp
      refine hK.out _ _ hSd (fun hHeld => ?_)
      clear hK K'
      try simp only [Act.put, List.setIfInBounds_toArray, List.set_cons_zero, List.set_cons_succ]
      refine wpAnyH_ready (rs := [15]) (by kernel_rfl) (by simp) ?_
      refine AllReadyH.cons (o := ⟨_, _, _, _, _, _⟩) rfl (fun K' hK => ?_) AllReadyH.nil
      go_simp
      refine hK.out _ _ (hSa _ _) (fun hHeld => ?_)
      clear hK K'
      try simp only [Act.put, List.setIfInBounds_toArray, List.set_cons_zero, List.set_cons_succ]
      refine wpAnyH_ready (rs := [16]) (by kernel_rfl) (by simp) ?_
      refine AllReadyH.cons (o := ⟨_, _, _, _, _, _⟩) rfl (fun K' hK => ?_) AllReadyH.nil
      refine wp_append_run _ _ 43 rfl _ _ _ _ rfl rfl hrun' ?_
      refine hK.out _ _ hS9 (fun hHeld => ?_)
      clear hK K'
      try simp only [Act.put, List.setIfInBounds_toArray, List.set_cons_zero, List.set_cons_succ]
      refine wpAnyH_take (i := 17) (oi := ⟨_, _, _, _, _, _⟩) (v := ?_) rfl (by kernel_rfl) (by kernel_rfl) (by kernel_rfl) (fun _ _ _ h => h) (Or.inl ⟨by rfl, ?_⟩) (by assumption) ?_
      rotate_left 1
      · intro W' hSw
        obtain ⟨hS1, hS2⟩ := hSw
        go_simp
        try with_reducible rfl
      try simp only [Act.put, List.setIfInBounds_toArray, List.set_cons_zero, List.set_cons_succ]
      refine wpAnyH_ready (rs := [18]) (by kernel_rfl) (by simp) ?_
      refine AllReadyH.cons (o := ⟨_, _, _, _, _, _⟩) rfl (fun K' hK => ?_) AllReadyH.nil
      go_simp
      refine hK.out _ _ hSp (fun hHeld => ?_)
      clear hK K'
      try simp only [Act.put, List.setIfInBounds_toArray, List.set_cons_zero, List.set_cons_succ]
      refine wpAnyH_done (by kernel_rfl) ?_ _
      go_wp2_with fail
      refine ⟨rfl, rfl, ⟨rfl, rfl, rfl, rfl, rfl, i + 1, by omega, ?_, HI'⟩, ?_⟩
      · show Value.int .i64 _ = _
        go_num
      · show K - (intOf (Value.int .i64 _)).toNat < K - (intOf (F 8)).toNat
        rw [H8.out]
        simp [intOf]; omega
    · go_simp
      refine hK.out _ _ (hSa _ _) (fun hHeld => ?_)
      clear hK K'
      try simp only [Act.put, List.setIfInBounds_toArray, List.set_cons_zero, List.set_cons_succ]
      refine wpAnyH_ready (rs := [1]) (by kernel_rfl) (by simp) ?_
      refine AllReadyH.cons (o := ⟨_, _, _, _, _, _⟩) rfl (fun K' hK => ?_) AllReadyH.nil
      go_simp
      refine hK.out _ _ (hSa _ _) (fun hHeld => ?_)
      clear hK K'
      try simp only [Act.put, List.setIfInBounds_toArray, List.set_cons_zero, List.set_cons_succ]
      refine wpAnyH_ready (rs := [16]) (by kernel_rfl) (by simp) ?_
      refine AllReadyH.cons (o := ⟨_, _, _, _, _, _⟩) rfl (fun K' hK => ?_) AllReadyH.nil
      refine wp_append_run _ _ 43 rfl _ _ _ _ rfl rfl hrun' ?_
      refine hK.out _ _ hS9 (fun hHeld => ?_)
      clear hK K'
      try simp only [Act.put, List.setIfInBounds_toArray, List.set_cons_zero, List.set_cons_succ]
      refine wpAnyH_take (i := 17) (oi := ⟨_, _, _, _, _, _⟩) (v := ?_) rfl (by kernel_rfl) (by kernel_rfl) (by kernel_rfl) (fun _ _ _ h => h) (Or.inl ⟨by rfl, ?_⟩) (by assumption) ?_
      rotate_left 1
      · intro W' hSw
        obtain ⟨hS1, hS2⟩ := hSw
        go_simp
        try with_reducible rfl
      try simp only [Act.put, List.setIfInBounds_toArray, List.set_cons_zero, List.set_cons_succ]
      refine wpAnyH_ready (rs := [18]) (by kernel_rfl) (by simp) ?_
      refine AllReadyH.cons (o := ⟨_, _, _, _, _, _⟩) rfl (fun K' hK => ?_) AllReadyH.nil
      go_simp
      refine hK.out _ _ hSp (fun hHeld => ?_)
      clear hK K'
      try simp only [Act.put, List.setIfInBounds_toArray, List.set_cons_zero, List.set_cons_succ]
      refine wpAnyH_done (by kernel_rfl) ?_ _
      go_wp2_with fail
      refine ⟨rfl, rfl, ⟨rfl, rfl, rfl, rfl, rfl, i + 1, by omega, ?_, HI'⟩, ?_⟩
      · show Value.int .i64 _ = _
        go_num
      · show K - (intOf (Value.int .i64 _)).toNat < K - (intOf (F 8)).toNat
        rw [H8.out]
        simp [intOf]; omega
  have hin' : ¬ (i : Int) < (K : Int) := by omega
  have e1 : tot = (0, L, xs.drop p3) := by
    rw [← hgo, show K - i = 0 by omega]; rfl
  have HG2 : Hid (decC xs = decCn L (xs.drop p3)) := by
    show _ = _
    rw [HG.out, e1]; rfl
  have hcall := two_any W V bs a n c p3 hS.rd hn hnc hc xs HX.out
  clear HI hS hLi hgo e1 HG hb2 hf2 hb4 hf4 H8
  go_wp2_with fail
  refine hcall.mono ?_
  rintro e V2 ⟨K2, ok, p4, rfl, hK2, hT, hR2, hSd2⟩
  dsimp only
  have hS2 := HS.out.call hSd2 hR2
  have hb2 := hS2.s2.cell
  have hf2 := hS2.s2.fre
  have hb4 := hS2.s4.cell
  have hf4 := hS2.s4.fre
  rcases hT with ⟨rfl, u, v, hd, hv⟩ | ⟨rfl, hsh⟩
  rotate_left 1
  · have HP := hid_of (HBAD.out _ V2 bs b2 b4 _ _ p4 hS2 29 (by decide) (by rw [HG2.out, decCn_short hsh]))
    clear hcall hSd2 hR2 hS2 hsh
    go_wp2_with fail
    refine ret_cell_tmp (C := Cert.enc ⟨⟨na, i, nc⟩, ⟨none, 0, 0⟩⟩) rfl rfl rfl ?_ (by kernel_rfl) (by rw [Cert.length_enc]; kernel_rfl) rfl HP.out
    first | (rw [blk_put, if_pos rfl, hb2]; rfl) | (simp only [blk_put, if_true, hb2, Option.map_some]; try rfl)
  have HG3 : Hid (decC xs = if K2 = 0 then (33, [], []) else if 256 < K2 then (34, [], []) else if (goCd K2 [] (xs.drop p4)).1 ≠ 0 then ((goCd K2 [] (xs.drop p4)).1, [], []) else if (goCd K2 [] (xs.drop p4)).2.2 ≠ [] then (30, [], []) else (0, L, (goCd K2 [] (xs.drop p4)).2.1)) := by
    show _ = _
    rw [HG2.out, hd, hv]; rfl
  have HS2 := hid_of hS2
  clear hcall hSd2 hR2 hS2 hd hv HG2
  by_cases hz : K2 = 0
  · have HP := hid_of (HBAD.out _ V2 bs b2 b4 _ _ p4 HS2.out 33 (by decide) (by rw [HG3.out, if_pos hz]))
    have hz' : ((K2 : Int) == 0) = true := by simp [hz]
    clear hz
    go_wp2_with fail
    refine ret_cell_tmp (C := Cert.enc ⟨⟨na, i, nc⟩, ⟨none, 0, 0⟩⟩) rfl rfl rfl ?_ (by kernel_rfl) (by rw [Cert.length_enc]; kernel_rfl) rfl HP.out
    first | (rw [blk_put, if_pos rfl, hb2]; rfl) | (simp only [blk_put, if_true, hb2, Option.map_some]; try rfl)
  have hz' : ((K2 : Int) == 0) = false := by simp [hz]
  by_cases h256 : 256 < K2
  · have HP := hid_of (HBAD.out _ V2 bs b2 b4 _ _ p4 HS2.out 34 (by decide) (by rw [HG3.out, if_neg hz, if_pos h256]))
    have h256' : (256 : Int) < (K2 : Int) := by omega
    go_wp2_with fail
    refine ret_cell_tmp (C := Cert.enc ⟨⟨na, i, nc⟩, ⟨none, 0, 0⟩⟩) rfl rfl rfl ?_ (by kernel_rfl) (by rw [Cert.length_enc]; kernel_rfl) rfl HP.out
    first | (rw [blk_put, if_pos rfl, hb2]; rfl) | (simp only [blk_put, if_true, hb2, Option.map_some]; try rfl)
  have h256' : ¬ (256 : Int) < (K2 : Int) := by omega
  obtain ⟨tot2, htot⟩ : ∃ tot2, tot2 = goCd K2 [] (xs.drop p4) := ⟨_, rfl⟩
  have HG : Hid (decC xs = if tot2.1 ≠ 0 then (tot2.1, [], []) else if tot2.2.2 ≠ [] then (30, [], []) else (0, L, tot2.2.1)) := by
    show _ = _
    rw [HG3.out, if_neg hz, if_neg h256, htot]
  have HI0 : Hid (∃ O na' nc' M p, CdS W bs b2 b4 a n c ⟨⟨na, i, nc⟩, ⟨na', 0, nc'⟩⟩ (L, M) p O V2 ∧ M.length = 0 ∧ goCd (K2 - 0) M (xs.drop p) = tot2) := ⟨_, none, 0, [], p4, HS2.out, rfl, htot.symm⟩
  clear htot HG3 HS2 HS hb2 hf2 hb4 hf4 hz
  go_upto_region 26 with fail
  refine wp_loop_f 170 (cd2I W bs b2 b4 a n c xs ⟨na, i, nc⟩ L K2 tot2) (fun f _ => K2 - (intOf (f 11)).toNat) rfl ⟨rfl, rfl, rfl, rfl, rfl, 0, by omega, rfl, HI0⟩ ?_
  clear HI0 hz' h256 h256' hin'
  intro F2 U hrel
  obtain ⟨f0, f2, f4, f5, f6, j, hj, f11, HJ⟩ := hrel
  have H11 := hid_of f11
  rw [frame170c, f0, f2, f4, f5, f6, f11]
  clear f0 f2 f4 f5 f6 f11
  obtain ⟨O3, da, dc, M, p5, hS, hMi, hgo⟩ := HJ.out
  have hb2 := hS.s2.cell
  have hf2 := hS.s2.fre
  have hb4 := hS.s4.cell
  have hf4 := hS.s4.fre
  have hbs := hS.rd.1
  have HS := hid_of hS
  have HMI := hid_of hMi
  have hp5n := hS.rd.2.2.2.2
  by_cases hjn : j < K2
  rotate_left 1
  · have hjn' : ¬ (j : Int) < (K2 : Int) := by omega
    have e1 : tot2 = (0, M, xs.drop p5) := by
      rw [← hgo, show K2 - j = 0 by omega]; rfl
    have hg := HG.out
    rw [e1] at hg
    have hxl := HXL.out
    by_cases hpe : p5 = n
    · have HP : Hid (Q (.returned (.tuple #[.agg (Cert.enc ⟨⟨na, i, nc⟩, ⟨da, j, dc⟩⟩).toArray, .int .i64 0])) (put U b2 (Cert.enc ⟨⟨na, i, nc⟩, ⟨da, j, dc⟩⟩))) := by
        have hg2 : decC xs = (0, L, M) := by
          rw [hg, List.drop_of_length_le (by omega)]; rfl
        show Q _ _
        rw [HQ.out, hg2]
        have hF := (HS.out.s2.put (Cert.enc ⟨⟨na, i, nc⟩, ⟨da, j, dc⟩⟩)).1
        have hB := HS.out.bl.step hF (fun e => by have := (Lab.a.inj e).1; omega)
        exact ⟨_, rfl, hB.ext, fun _ => (HS.out.ct.fr hF (fun e => by cases e) (fun e => by have := (Lab.a.inj e).1; omega) (fun e => by have := (Lab.a.inj e).1; omega)).fin hB⟩
      have hpe' : ((p5 : Int) != (n : Int)) = false := by simp [hpe]
      clear HJ hS hMi hgo e1 hg hxl hpe
      go_wp2_with fail
      refine ret_cell_tmp (C := Cert.enc ⟨⟨na, i, nc⟩, ⟨da, j, dc⟩⟩) rfl rfl rfl ?_ (by kernel_rfl) (by rw [Cert.length_enc]; kernel_rfl) rfl HP.out
      first | (rw [blk_put, if_pos rfl, hb2]; rfl) | (simp only [blk_put, if_true, hb2, Option.map_some]; try rfl)
    · have HP := hid_of (HBAD.out _ U bs b2 b4 _ _ p5 HS.out 30 (by decide) (by
        rw [hg, if_neg (fun e => e rfl), if_pos (fun e => by
            have h9 := congrArg List.length e
            rw [List.length_drop] at h9
            simp at h9
            omega)]))
      have hpe' : ((p5 : Int) != (n : Int)) = true := by simp; omega
      clear HJ hS hMi hgo e1 hg hxl hpe
      go_wp2_with fail
      refine ret_cell_tmp (C := Cert.enc ⟨⟨na, i, nc⟩, ⟨da, j, dc⟩⟩) rfl rfl rfl ?_ (by kernel_rfl) (by rw [Cert.length_enc]; kernel_rfl) rfl HP.out
      first | (rw [blk_put, if_pos rfl, hb2]; rfl) | (simp only [blk_put, if_true, hb2, Option.map_some]; try rfl)
  have hjn' : (j : Int) < (K2 : Int) := by omega
  have hcall := one_any W U bs a n c p5 hS.rd hn hnc hc xs HX.out
  obtain ⟨m, hm⟩ : ∃ m, K2 - j = m + 1 := ⟨K2 - j - 1, by omega⟩
  rw [hm, goCd_succ] at hgo
  have HGO := hid_of hgo
  have HM := hid_of hm
  have HBD : Hid (∀ (O : Own) (V : World) (p : Nat) (cd : Int), CdS W bs b2 b4 a n c ⟨⟨na, i, nc⟩, ⟨da, j, dc⟩⟩ (L, M) p O V → cd ≠ 0 → (nodeD (xs.drop p5)).1 = cd → Q (.returned (.tuple #[.agg (Cert.enc ⟨⟨na, i, nc⟩, ⟨da, j, dc⟩⟩).toArray, .int .i64 cd])) (put V b2 (Cert.enc ⟨⟨na, i, nc⟩, ⟨da, j, dc⟩⟩))) := by
    intro O V p cd h1 h2 h3
    refine HBAD.out O V bs b2 b4 _ _ p h1 cd h2 ?_
    have h4 := HGO.out
    rw [if_pos (by rw [h3]; exact h2), h3] at h4
    rw [HG.out, ← h4]
    exact congrArg Prod.fst (if_pos h2)
  clear HJ hS hMi hgo hm hb2 hf2 hb4 hf4 hbs
  go_wp2_with fail
  refine hcall.mono ?_
  rintro e V6 ⟨kt, ok1, p6, rfl, hN1, hR6, hS6⟩
  dsimp only
  have hC6 := HS.out.call hS6 hR6
  have hb2 := hC6.s2.cell
  have hf2 := hC6.s2.fre
  have hb4 := hC6.s4.cell
  have hf4 := hC6.s4.fre
  have hkt := hN1.lt
  have HN1 := hid_of hN1.cases
  have hcall2 := one_any W V6 bs a n c p6 hR6 hn hnc hc xs HX.out
  have HC6 := hid_of hC6
  clear hcall hS6 hR6 hC6 hN1
  by_cases hbt : ok1 = true ∧ 1 < kt
  · obtain ⟨rfl, h1⟩ := hbt
    have h1' : (1 : Int) < (kt : Int) := by omega
    have HP := hid_of (HBD.out _ V6 p6 32 HC6.out (by decide) (by
      rcases HN1.out with ⟨_, x, hx, hd⟩ | ⟨e1, _⟩
      · rw [hd, nodeD_big (by rw [← hx]; exact h1)]
      · cases e1))
    clear hcall2
    go_wp2_with fail
    refine ret_cell_tmp (C := Cert.enc ⟨⟨na, i, nc⟩, ⟨da, j, dc⟩⟩) rfl rfl rfl ?_ (by kernel_rfl) (by rw [Cert.length_enc]; kernel_rfl) rfl HP.out
    first | (rw [blk_put, if_pos rfl, hb2]; rfl) | (simp only [blk_put, if_true, hb2, Option.map_some]; try rfl)
  have hpk : (if ok1 then decide ((1 : Int) < (kt : Int)) else false) = false := by
    cases ok1 with
    | false => rfl
    | true =>
      have h9 : ¬ 1 < kt := fun h => hbt ⟨rfl, h⟩
      simp; omega
  have HBT := hid_of hbt
  have hgo2 : Hid (∀ V7 p7 kw ok2, Side (isR bs) V6 V7 → Rdr W bs a n c p7 V7 → NxR xs p6 kw ok2 p7 → True) := fun _ _ _ _ _ _ _ => trivial
  clear hgo2 hbt
  have hok1 : ok1 = false ∨ (ok1 = true ∧ ¬ (1 : Int) < (kt : Int)) := by
    cases ok1 with
    | false => exact .inl rfl
    | true => exact .inr ⟨rfl, by have h9 : ¬ 1 < kt := fun h => HBT.out ⟨rfl, h⟩; omega⟩
  clear hpk
  rcases hok1 with hok1 | hok1
  · subst hok1
    go_wp2_with fail
    refine hcall2.mono ?_
    rintro e V7 ⟨kw, ok2, p7, rfl, hN2, hR7, hS7⟩
    dsimp only
    have hC7 := HC6.out.call hS7 hR7
    have hkw := hN2.lt
    have HN2 := hid_of hN2.cases
    have hcall3 := refs_any W V7 bs a n c p7 hR7 hn hnc hc xs HX.out
    have HC7 := hid_of hC7
    clear hcall2 hS7 hR7 hC7 hN2 hb2 hf2 hb4 hf4
    go_wp2_with fail
    refine hcall3.mono ?_
    rintro e V8 ⟨va, vn, vc, ok3, p8, rfl, hR8, hS8, hres⟩
    dsimp only
    have hC8 := HC7.out.call hS8 hR8
    have hb2 := hC8.s2.cell
    have hf2 := hC8.s2.fre
    have hb4 := hC8.s4.cell
    have hf4 := hC8.s4.fre
    have HRES := hid_of hres
    have HC8 := hid_of hC8
    clear hcall3 hS8 hC8 hres
    have HP := hid_of (HBD.out _ V8 p8 29 HC8.out (by decide) (by
      rcases HN1.out with ⟨e1, _⟩ | ⟨_, hd, _⟩
      · cases e1
      · rw [hd]; rfl))
    clear hR8
    go_wp2_with fail
    refine ret_cell_tmp (C := Cert.enc ⟨⟨na, i, nc⟩, ⟨da, j, dc⟩⟩) rfl rfl rfl ?_ (by kernel_rfl) (by rw [Cert.length_enc]; kernel_rfl) rfl HP.out
    first | (rw [blk_put, if_pos rfl, hb2]; rfl) | (simp only [blk_put, if_true, hb2, Option.map_some]; try rfl)
  obtain ⟨rfl, h1'⟩ := hok1
  go_wp2_with fail
  refine hcall2.mono ?_
  rintro e V7 ⟨kw, ok2, p7, rfl, hN2, hR7, hS7⟩
  dsimp only
  have hC7 := HC6.out.call hS7 hR7
  have hkw := hN2.lt
  have HN2 := hid_of hN2.cases
  have hcall3 := refs_any W V7 bs a n c p7 hR7 hn hnc hc xs HX.out
  have HC7 := hid_of hC7
  clear hcall2 hS7 hR7 hC7 hN2 hb2 hf2 hb4 hf4
  go_wp2_with fail
  refine hcall3.mono ?_
  rintro e V8 ⟨va, vn, vc, ok3, p8, rfl, hR8, hS8, hres⟩
  dsimp only
  have hC8 := HC7.out.call hS8 hR8
  have hb2 := hC8.s2.cell
  have hf2 := hC8.s2.fre
  have hb4 := hC8.s4.cell
  have hf4 := hC8.s4.fre
  have HRES := hid_of hres
  have HC8 := hid_of hC8
  clear hcall3 hS8 hC8 hres
  have hnd : ∃ x, kt = UInt8.toNat x ∧ xs.drop p5 = x :: xs.drop p6 := by
    rcases HN1.out with ⟨_, x, hx, hd⟩ | ⟨e1, _⟩
    · exact ⟨x, hx, hd⟩
    · cases e1
  obtain ⟨xt, hxt, hdt⟩ := hnd
  have HND1 : Hid (nodeD (xs.drop p5) = nodR kt (xs.drop p6)) := by
    show _ = _
    rw [hdt, nodeD_small (by rw [← hxt]; omega), ← hxt]
  clear hxt hdt
  cases ok2 with
  | false =>
    have HP := hid_of (HBD.out _ V8 p8 29 HC8.out (by decide) (by
      rcases HN2.out with ⟨e1, _⟩ | ⟨_, hd, _⟩
      · cases e1
      · rw [HND1.out, hd]; rfl))
    clear hR8
    go_wp2_with fail
    refine ret_cell_tmp (C := Cert.enc ⟨⟨na, i, nc⟩, ⟨da, j, dc⟩⟩) rfl rfl rfl ?_ (by kernel_rfl) (by rw [Cert.length_enc]; kernel_rfl) rfl HP.out
    first | (rw [blk_put, if_pos rfl, hb2]; rfl) | (simp only [blk_put, if_true, hb2, Option.map_some]; try rfl)
  | true =>
  cases ok3 with
  | false =>
    have HP := hid_of (HBD.out _ V8 p8 29 HC8.out (by decide) (by
      rcases HN2.out with ⟨_, y, hy, hd⟩ | ⟨e1, _⟩
      · rcases HRES.out with ⟨e2, _⟩ | ⟨_, hr⟩
        · cases e2
        · rw [HND1.out, hd]
          show (nodV kt y.toNat (refsD (xs.drop p7))).1 = _
          rw [hr]; rfl
      · cases e1))
    clear hR8
    go_wp2_with fail
    refine ret_cell_tmp (C := Cert.enc ⟨⟨na, i, nc⟩, ⟨da, j, dc⟩⟩) rfl rfl rfl ?_ (by kernel_rfl) (by rw [Cert.length_enc]; kernel_rfl) rfl HP.out
    first | (rw [blk_put, if_pos rfl, hb2]; rfl) | (simp only [blk_put, if_true, hb2, Option.map_some]; try rfl)
  | true =>
  have hvv : ∃ vals, refsD (xs.drop p7) = some (vals, xs.drop p8) ∧ Rw encZ 1 (newc V7.heap.size V8) va vn vals := by
    rcases HRES.out with ⟨_, vals, h1, h2⟩ | ⟨e2, _⟩
    · exact ⟨vals, h1, h2⟩
    · cases e2
  obtain ⟨vals, hvr, hvw⟩ := hvv
  have HND : Hid (nodeD (xs.drop p5) = nodB kt kw vals (xs.drop p8)) := by
    show _ = _
    rcases HN2.out with ⟨_, y, hy, hd⟩ | ⟨e1, _⟩
    · rw [HND1.out, hd]
      show nodV kt y.toNat (refsD (xs.drop p7)) = _
      rw [hvr, ← hy]; rfl
    · cases e1
  have hvc := hvw.sub (newc_core (n := V7.heap.size) (V := V8) (lab (lab O3 U.heap.size .no) V6.heap.size .no))
  have HVC := hid_of hvc
  clear hvr hvw hvc HND1 HRES HN1 HN2
  have HFIN : Hid (∀ (V : World) (O : Own) (p' : Nat) (g : GNode) (d : CNode) (rest : List UInt8) (Wd : World) (a2 : Option Addr) (c2 : Nat), CdS W bs b2 b4 a n c ⟨⟨na, i, nc⟩, ⟨da, j, dc⟩⟩ (L, M) p' O V → NodC (core O V) g d → nodeD (xs.drop p5) = (0, d, xs.drop p') → (Builtin.append_ #[177, 177] 177 #[.slice da j dc, .slice (some ⟨V.heap.size, 0, none⟩) 1 1]).run Tryz.prog (V.alloc (.cells (GNode.enc g).toArray 182)) = .ok (.slice a2 (j + 1) c2) Wd → RowL W.heap.size (lab O V.heap.size (.a 6 3)) (.a 6 3) Wd 182 4 (.slice a2 (j + 1) c2) ((0 : Nat)) [] → True) := fun _ _ _ _ _ _ _ _ _ _ _ _ _ _ => trivial
  clear HFIN
  have HAPP : Hid (∀ (V : World) (O : Own) (p' : Nat) (g : GNode) (d : CNode), CdS W bs b2 b4 a n c ⟨⟨na, i, nc⟩, ⟨da, j, dc⟩⟩ (L, M) p' O V → NodC (core O V) g d → nodeD (xs.drop p5) = (0, d, xs.drop p') → ∃ a2 c2 V9, (Builtin.append_ #[177, 177] 177 #[.slice da j dc, .slice (some ⟨V.heap.size, 0, none⟩) 1 1]).run Tryz.prog (V.alloc (.cells (GNode.enc g).toArray 182)) = .ok (.slice a2 (j + 1) c2) V9 ∧ blk V9 b4 = some (Cert.enc ⟨⟨na, i, nc⟩, ⟨da, j, dc⟩⟩) ∧ free V9 b4 = true ∧ ∃ O na' nc' M p, CdS W bs b2 b4 a n c ⟨⟨na, i, nc⟩, ⟨na', j + 1, nc'⟩⟩ (L, M) p O (put V9 b4 (Cert.enc ⟨⟨na, i, nc⟩, ⟨a2, j + 1, c2⟩⟩)) ∧ M.length = j + 1 ∧ goCd (K2 - (j + 1)) M (xs.drop p) = tot2) := by
    intro V O p' g d hC hNd hnd
    obtain ⟨Gs, g1, g2⟩ := hC.ct.nodes
    obtain ⟨a2, c2, V9, hrun, hrow9, hF9⟩ := appL GNode.enc 4 64 177 182 el217.und el217.info el217.len el217.one el217.pos el217.small 177 g g1 hC.bl.fr.size (by have := HMI.out; have h9 : Gs.length = M.length := g2.1; omega) (GNode.enc g).toArray rfl 1
    have hB9 := hC.bl.step hF9 (fun e => by have := (Lab.a.inj e).2; omega)
    have hs29 := hC.s2.fr hF9 (fun e => by have := (Lab.a.inj e).1; omega)
    have hs49 := hC.s4.fr hF9 (fun e => by have := (Lab.a.inj e).1; omega)
    have ho9 := (hF9.keep bs (blk_lt hC.rd.1)).trans hC.ob
    have hR9 := hC.bl.rdr hC.ob hC.rd hF9 (fun e => by have := (Lab.a.inj e).2; omega) (fun e => by have := (Lab.a.inj e).2; omega)
    have hsb := Sub.ext (core_fr hF9 (fun e => by cases e))
    have hp9 := hs49.put (Cert.enc ⟨⟨na, i, nc⟩, ⟨a2, j + 1, c2⟩⟩)
    have hct : CtM W (lab O V.heap.size (.a 6 3)) V9 ⟨⟨na, i, nc⟩, ⟨a2, j + 1, c2⟩⟩ (L, M ++ [d]) := ⟨hC.ct.names.fr hF9 (fun e => by have := (Lab.a.inj e).2; omega), Gs ++ [g], hrow9, (NodsC.snoc (L := M) g2 hNd).sub hsb⟩
    refine ⟨a2, c2, V9, hrun, hs49.cell, hs49.fre, _, a2, c2, M ++ [d], p', ⟨hB9.step hp9.1 (fun e => by have := (Lab.a.inj e).1; omega), ho9, hs29.putO HN24.out, hp9.2, hct.fr hp9.1 (fun e => by cases e) (fun e => by have := (Lab.a.inj e).1; omega) (fun e => by have := (Lab.a.inj e).1; omega), hB9.rdr ho9 hR9 hp9.1 (fun e => by have := (Lab.a.inj e).1; omega) (fun e => by have := (Lab.a.inj e).1; omega)⟩, by rw [List.length_append, HMI.out]; rfl, ?_⟩
    have h4 := HGO.out
    rw [hnd] at h4
    have e2 : K2 - (j + 1) = m := by have := HM.out; omega
    rw [e2, ← h4]; rfl
  by_cases ht0 : kt = 0
  · have ht0' : ((kt : Int) == 0) = true := by simp [ht0]
    obtain ⟨a2, c2, V9, hrun, hb49, hf49, hI9⟩ := HAPP.out V8 _ p8 ⟨-1, (kw : Int), ⟨va, vn, vc⟩, ⟨none, 0, 0⟩⟩ ⟨-1, (kw : Int), vals, []⟩ HC8.out ⟨rfl, rfl, HVC.out, ⟨rfl, fun i x h => by simp at h⟩⟩ (by rw [HND.out]; unfold nodB; rw [if_pos ht0])
    have HI' := hid_of hI9
    clear HAPP HND HVC HC8 hR8 hI9 ht0
    go_wp2_with (at_builtin; refine wpList_append_run rfl _ _ 177 rfl _ _ _ _ rfl rfl hrun ?_)
    refine ⟨rfl, rfl, ⟨rfl, rfl, rfl, rfl, rfl, j + 1, by omega, ?_, HI'⟩, ?_⟩
    · show Value.int .i64 _ = _
      go_num
    · show K2 - (intOf (Value.int .i64 _)).toNat < K2 - (intOf (F2 11)).toNat
      rw [H11.out]
      simp [intOf]; omega
  have ht0' : ((kt : Int) == 0) = false := by simp [ht0]
  have hcall4 := refs_any W V8 bs a n c p8 hR8 hn hnc hc xs HX.out
  clear hR8 hb2 hf2 hb4 hf4
  go_wp2_with fail
  refine hcall4.mono ?_
  rintro e V9 ⟨ra, rn, rc, ok4, p9, rfl, hR9, hS9, hres⟩
  dsimp only
  have hC9 := HC8.out.call hS9 hR9
  have hb2 := hC9.s2.cell
  have hf2 := hC9.s2.fre
  have hb4 := hC9.s4.cell
  have hf4 := hC9.s4.fre
  have HC9 := hid_of hC9
  have hVC9 := HVC.out.sub (Sub.ext (core_fr (call0 HC8.out.ob hS9) (fun e => by cases e)))
  have HVC9 := hid_of hVC9
  rcases hres with ⟨rfl, refs, hrr, hrw⟩ | ⟨rfl, hrr⟩
  rotate_left 1
  · have HP := hid_of (HBD.out _ V9 p9 29 HC9.out (by decide) (by rw [HND.out]; unfold nodB; rw [if_neg ht0, hrr]))
    clear hcall4 hR9 hS9 hC9 hVC9 hrr ht0
    go_wp2_with fail
    refine ret_cell_tmp (C := Cert.enc ⟨⟨na, i, nc⟩, ⟨da, j, dc⟩⟩) rfl rfl rfl ?_ (by kernel_rfl) (by rw [Cert.length_enc]; kernel_rfl) rfl HP.out
    first | (rw [blk_put, if_pos rfl, hb2]; rfl) | (simp only [blk_put, if_true, hb2, Option.map_some]; try rfl)
  have hrc := hrw.sub (newc_core (n := V8.heap.size) (V := V9) (lab (lab (lab O3 U.heap.size .no) V6.heap.size .no) V7.heap.size .no))
  obtain ⟨a2, c2, V10, hrun, hb49, hf49, hI9⟩ := HAPP.out V9 _ p9 ⟨(kw : Int), 0, ⟨va, vn, vc⟩, ⟨ra, rn, rc⟩⟩ ⟨(kw : Int), 0, vals, refs⟩ HC9.out ⟨rfl, rfl, HVC9.out, hrc⟩ (by rw [HND.out]; unfold nodB; rw [if_neg ht0, hrr])
  have HI' := hid_of hI9
  clear HAPP HND HVC HC8 HC9 HVC9 hVC9 hI9 ht0 hcall4 hR9 hS9 hC9 hrr hrw hrc
  go_wp2_with (at_builtin; refine wpList_append_run rfl _ _ 177 rfl _ _ _ _ rfl rfl hrun ?_)
  refine ⟨rfl, rfl, ⟨rfl, rfl, rfl, rfl, rfl, j + 1, by omega, ?_, HI'⟩, ?_⟩
  · show Value.int .i64 _ = _
    go_num
  · show K2 - (intOf (Value.int .i64 _)).toNat < K2 - (intOf (F2 11)).toNat
    rw [H11.out]
    simp [intOf]; omega
end Go.Proofs.Qxb6500787aGreat
