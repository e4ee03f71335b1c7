import Derived.Test.Qxb6500787aGreatFc

import Derived.StillTailTactics
import Derived.Deep.QuietTactic
import Derived.BigQuiet
import Derived.Deep.RegionHeld
import Derived.Deep.CutRange
import Derived.Laws.ResultCell
import Derived.Laws.Rows
import Derived.DeepKeys
import Derived.DataBytes
import Derived.Laws.StructEq
import Derived.Laws.AppendOwn
import Derived.Laws.MakeOwn
import Derived.Lib.AppendStr
set_option linter.unusedSimpArgs false
set_option linter.unusedVariables false
namespace Go.Proofs.Qxb6500787aGreat
open Go.RowKit Go.Blk
attribute [local go_sem ↓] execOp_load execOp_store execOp_alloc
attribute [local go_sem] Tryz.ld26 Tryz.st26 Tryz.ld27 Tryz.st27 Tryz.ld28 Tryz.st28 Tryz.ld3 Tryz.st3 Tryz.ld29 Tryz.st29 Tryz.ld44 Tryz.st44 Tryz.ld4 Tryz.st4 Tryz.ld50 Tryz.st50 Tryz.ld32 Tryz.st32 Tryz.ld49 Tryz.st49 Tryz.ld68 Tryz.st68 Tryz.ld9 Tryz.st9 Tryz.ld40 Tryz.st40 Tryz.ld138 Tryz.st138 Tryz.ld139 Tryz.st139 Tryz.ld146 Tryz.st146 Tryz.ld183 Tryz.st183 Tryz.ld184 Tryz.st184 Tryz.ld192 Tryz.st192 Tryz.ld195 Tryz.st195 Tryz.ld217 Tryz.st217 Tryz.ld159 Tryz.st159 Tryz.ld142 Tryz.st142 Tryz.ld2 Tryz.st2 Tryz.ld5 Tryz.st5 Tryz.ld12 Tryz.st12 Tryz.ld21 Tryz.st21 Tryz.ld22 Tryz.st22 Tryz.ld24 Tryz.st24 Tryz.ld58 Tryz.st58 Tryz.ld97 Tryz.st97 Tryz.ld101 Tryz.st101 Tryz.ld116 Tryz.st116 Tryz.ld121 Tryz.st121 Tryz.ld135 Tryz.st135 Tryz.ld136 Tryz.st136 Tryz.ld143 Tryz.st143 Tryz.ld148 Tryz.st148 Tryz.ld154 Tryz.st154 Tryz.ld173 Tryz.st173 Tryz.ld187 Tryz.st187 Tryz.ld222 Tryz.st222 Tryz.ld241 Tryz.st241 Tryz.ld248 Tryz.st248 Tryz.ld268 Tryz.st268 Tryz.ld272 Tryz.st272 Tryz.ld153 Tryz.st153 Tryz.ld255 Tryz.st255 Tryz.ld256 Tryz.st256 Tryz.ld129 Tryz.st129 Tryz.ld152 Tryz.st152 Tryz.ld31 Tryz.st31 Tryz.ld46 Tryz.st46 Tryz.ld52 Tryz.st52 Tryz.ld54 Tryz.st54 Tryz.ld60 Tryz.st60 Tryz.ld70 Tryz.st70 Tryz.ld74 Tryz.st74 Tryz.ld93 Tryz.st93 Tryz.ld141 Tryz.st141 Tryz.ld151 Tryz.st151 Tryz.ld170 Tryz.st170 Tryz.ld186 Tryz.st186 Tryz.ld189 Tryz.st189 Tryz.ld194 Tryz.st194 Tryz.ld197 Tryz.st197 Tryz.ld219 Tryz.st219 Tryz.ld224 Tryz.st224 Tryz.ld230 Tryz.st230 Tryz.ld235 Tryz.st235 Tryz.ld243 Tryz.st243 Tryz.ld247 Tryz.st247 Tryz.ld252 Tryz.st252 Tryz.ld258 Tryz.st258 Tryz.al153 Tryz.al255 Tryz.al256 Tryz.al129 Tryz.al152 Tryz.al31 Tryz.al46 Tryz.al52 Tryz.al54 Tryz.al60 Tryz.al70 Tryz.al74 Tryz.al93 Tryz.al141 Tryz.al151 Tryz.al170 Tryz.al186 Tryz.al189 Tryz.al194 Tryz.al197 Tryz.al219 Tryz.al224 Tryz.al230 Tryz.al235 Tryz.al243 Tryz.al247 Tryz.al252 Tryz.al258
attribute [local go_sem] Request.length_enc Request.ok_enc Request.all_get Request.all_set Request.kind_get Request.kind_set Request.blob_get Request.blob_set Request.items_get Request.items_set Request.pred_get Request.pred_set Request.slots_get Request.slots_set Trace.length_enc Trace.ok_enc Trace.all_get Trace.all_set Trace.op_get Trace.op_set Trace.calls_get Trace.calls_set Item.length_enc Item.ok_enc Item.all_get Item.all_set Item.del_get Item.del_set Item.pred_get Item.pred_set Item.args_get Item.args_set Reply.length_enc Reply.ok_enc Reply.all_get Reply.all_set Reply.code_get Reply.code_set Reply.kind_get Reply.kind_set Reply.index_get Reply.index_set Reply.yes_get Reply.yes_set Reply.preds_get Reply.preds_set Reply.rules_get Reply.rules_set Reply.arity_get Reply.arity_set Reply.rows_get Reply.rows_set Reply.fact_get Reply.fact_set Reply.fact_del_get Reply.fact_del_set Reply.fact_pred_get Reply.fact_pred_set Reply.fact_args_get Reply.fact_args_set GEntry.length_enc GEntry.ok_enc GEntry.all_get GEntry.all_set GEntry.seq_get GEntry.seq_set GEntry.kind_get GEntry.kind_set GEntry.code_get GEntry.code_set GOp.length_enc GOp.ok_enc GOp.all_get GOp.all_set GOp.kind_get GOp.kind_set GOp.raw_get GOp.raw_set Reader.length_enc Reader.ok_enc Reader.all_get Reader.all_set Reader.buf_get Reader.buf_set Reader.at__get Reader.at__set Slot.length_enc Slot.ok_enc Slot.all_get Slot.all_set Slot.bound_get Slot.bound_set Slot.name_get Slot.name_set Session.length_enc Session.ok_enc Session.all_get Session.all_set Session.svc_get Session.svc_set Session.buf_get Session.buf_set Session.closed_get Session.closed_set GProgram.length_enc GProgram.ok_enc GProgram.all_get GProgram.all_set GProgram.pool_get GProgram.pool_set GProgram.preds_get GProgram.preds_set GProgram.rules_get GProgram.rules_set GProgram.strata_get GProgram.strata_set PredInfo.length_enc PredInfo.ok_enc PredInfo.all_get PredInfo.all_set PredInfo.arity_get PredInfo.arity_set PredInfo.base_get PredInfo.base_set PredInfo.stratum_get PredInfo.stratum_set Change.length_enc Change.ok_enc Change.all_get Change.all_set Change.del_get Change.del_set Change.pred_get Change.pred_set Change.t_get Change.t_set Store.length_enc Store.ok_enc Store.all_get Store.all_set Store.names_get Store.names_set Store.arity_get Store.arity_set Store.rows_get Store.rows_set Src.length_enc Src.ok_enc Src.all_get Src.all_set Src.b_get Src.b_set Src.at__get Src.at__set Atom.length_enc Atom.ok_enc Atom.all_get Atom.all_set Atom.pred_get Atom.pred_set Atom.args_get Atom.args_set GRule.length_enc GRule.ok_enc GRule.all_get GRule.all_set GRule.head_get GRule.head_set GRule.body_get GRule.body_set GRule.head_pred_get GRule.head_pred_set GRule.head_args_get GRule.head_args_set Cert.length_enc Cert.ok_enc Cert.all_get Cert.all_set Cert.names_get Cert.names_set Cert.nodes_get Cert.nodes_set Fact.length_enc Fact.ok_enc Fact.all_get Fact.all_set Fact.pred_get Fact.pred_set Fact.t_get Fact.t_set Literal.length_enc Literal.ok_enc Literal.all_get Literal.all_set Literal.neg_get Literal.neg_set Literal.atom_get Literal.atom_set Literal.atom_pred_get Literal.atom_pred_set Literal.atom_args_get Literal.atom_args_set Engine.length_enc Engine.ok_enc Engine.all_get Engine.all_set Engine.prog_get Engine.prog_set Engine.st_get Engine.st_set SrcCertm.length_enc SrcCertm.ok_enc SrcCertm.all_get SrcCertm.all_set SrcCertm.b_get SrcCertm.b_set SrcCertm.at__get SrcCertm.at__set GNode.length_enc GNode.ok_enc GNode.all_get GNode.all_set GNode.rule_get GNode.rule_set GNode.pred_get GNode.pred_set GNode.vals_get GNode.vals_set GNode.refs_get GNode.refs_set Term.length_enc Term.ok_enc Term.all_get Term.all_set Term.var_get Term.var_set Term.n_get Term.n_set Env.length_enc Env.ok_enc Env.all_get Env.all_set Env.val_get Env.val_set Env.set_get Env.set_set
attribute [local go_sem] size_put size_ext blk_put free_put blk_alloc free_alloc blk_drew free_drew blk_ext free_ext lookOr_some putOr_some segAt_some cellAt_some storeIn_some put_put put_alloc_new length_arr ok_arr_u8 ok_arr_u32 ok_arr_u64 ok_arr_i64 ok_arr_sl cellsV_agg cellsV_int cellsV_bool cellsV_string cellsV_pointer cellsV_slice cellsV_sl ok_int ok_bool ok_string ok_pointer ok_slice ok_sl toList_arr seg_arr set_arr nth_splice nth_splice0 seg_splice seg_splice0 splice_splice splice_splice0 length_splice_if
attribute [local go_sem ↓] execOp_box
attribute [local go_sem] box_run nth_arr_u8 put_arr_u8 blk_drewN free_drewN put_drewN blk_raw free_raw
theorem build37b (w : World) (k : Int) (a : Option Addr) (n c : Nat) : (buildOp 37 #[(0, .int .i64 k), (1, .slice a n c)]).run Tryz.prog w = .ok (.value (.agg (reqE k a n c none 0 0 0 none 0 0).toArray)) w := by kernel_rfl
theorem build37i (w : World) (k : Int) (a : Option Addr) (n c : Nat) : (buildOp 37 #[(0, .int .i64 k), (2, .slice a n c)]).run Tryz.prog w = .ok (.value (.agg (reqE k none 0 0 a n c 0 none 0 0).toArray)) w := by kernel_rfl
theorem build67i (w : World) (p : Int) (a : Option Addr) (n c : Nat) : (buildOp 67 #[(1, .int .i64 p), (2, .slice a n c)]).run Tryz.prog w = .ok (.value (.agg (itemE false p a n c).toArray)) w := by kernel_rfl
theorem bslice34 (w : World) (p : Int) (a : Option Addr) (n c : Nat) : (bsliceOp 34 1 #[(0, .agg (itemE false p a n c).toArray)]).run Tryz.prog w = .ok (.value (.slice (some ⟨w.heap.size, 0, none⟩) 1 1)) (w.alloc (.cells (itemE false p a n c).toArray 67)) := by kernel_rfl
theorem dr_code {q q' : PRep} (hB : RepB q) (h : drF (encR' q) = (0, q')) : q'.code = q.code := by
  obtain ⟨d1, d2, d3, d4⟩ := drF_inv h
  have e : bI q'.code = bI q.code := (List.cons.inj (show bI q'.code :: bI q'.kind :: encBd q' = bI q.code :: bI q.kind :: encBd q from d1)).1
  have e2 := congrArg UInt8.toNat e
  rw [bI_nat d2.code, bI_nat hB.code] at e2
  have := d2.code
  have := hB.code
  omega
def CcPost (O : Own) (V : World) (bs : Nat) (m : Int) (s : Sv) (raw : List UInt8) (e : Ending) (V' : World) : Prop := ∃ q s' O' g', e = .returned (.int .i64 q.code) ∧ svR s raw q s' ∧ LS O V bs (m + 10) s' O' g' V'
attribute [local go_sem ↓] execOp_slice execOp_convert execOp_build execOp_bslice execOp_make execOp_box
attribute [local go_sem] build37b build37i build67i bslice34 cl_len cl0
set_option maxRecDepth 20000 in
set_option maxHeartbeats 2000000 in
theorem cload_any {O : Own} {V : World} {bs : Nat} {m : Int} {s : Sv} {g : Nat} (h : LS O V bs m s O g V) (hm : 1000 ≤ m ∧ m ≤ 800000000) (bc : Nat) (hbc : blk V bc = some (clE bs)) (ia : Option Addr) (n c : Nat) (hnc : n ≤ c) (hc : c ≤ 9223372036854775807) (xs : List UInt8) (hX : Bs V ia n xs) (hl : xs.length ≤ 65532) : Calls Tryz.prog 42 #[.pointer (some ⟨bc, 0, none⟩), .slice ia n c] V (CcPost O V bs m s ([1, UInt8.ofNat 1, UInt8.ofNat (xs.length / 256), UInt8.ofNat xs.length] ++ xs)) := by
  obtain ⟨raw, eraw⟩ : ∃ raw, raw = [1, UInt8.ofNat 1, UInt8.ofNat (xs.length / 256), UInt8.ofNat xs.length] ++ xs := ⟨_, rfl⟩
  obtain ⟨Q, hQ⟩ : ∃ Q, Q = CcPost O V bs m s raw := ⟨_, rfl⟩
  rw [← eraw, ← hQ]
  have HQ := hid_of hQ
  have hrl : raw.length ≤ 65536 := by
    rw [eraw, List.length_append]
    show 4 + _ ≤ _
    omega
  have hca := call_rq h hm bc hbc 1 ia n c none 0 0 0 none 0 0 ⟨1, xs, [], 0, []⟩ (fun W hx => ⟨rfl, hX.sub (Sub.ext hx), hnc, hc, ⟨[], ⟨rfl, fun i x hx => by simp at hx⟩, rfl, fun i d it hx => by simp at hx⟩, rfl, ⟨rfl, fun i x hx => by simp at hx⟩⟩) 1 (.inl rfl) xs ⟨rfl, by decide, by decide, by omega, fun _ => ⟨rfl, rfl, rfl⟩, fun e => by omega, fun e => by omega, fun e => by omega⟩ raw eraw hrl
  clear hQ h hX eraw hrl hbc
  go_enter Tryz.func42, Tryz.ntmps42
  go_wp2_with fail
  refine hca.mono ?_
  rintro e V1 ⟨rep, q, q', s', O', g', rfl, hsr, hRB, hdr, hL1, hco, hRC⟩
  dsimp only
  rw [dr_code hRB hdr]
  obtain ⟨RE, eRE⟩ : ∃ RE, RE = Reply.enc rep := ⟨_, rfl⟩
  have rl : RE.length = 11 := by rw [eRE]; exact Reply.length_enc _
  have rok : okCells 11 RE = true := by rw [eRE]; exact Reply.ok_enc _
  have rs : splice Reply.zero.enc 0 RE = RE := by rw [eRE]; exact Reply.all_set _ _
  have rz : Reply.zero.enc.length = 11 := Reply.length_enc _
  rw [← eRE]
  have HP : Hid (∀ V2, V1.Extends V2 → Q (.returned (.int .i64 q.code)) V2) := fun V2 hx => by
    rw [HQ.out]
    exact ⟨q, s', _, g', rfl, hsr, hL1.grow hx⟩
  clear hca hsr hRB hdr hL1 hco hRC eRE HQ
  go_wp2_with fail
  try go_ret
  refine HP.out _ ?_
  exact extends_alloc (ext_Ext (Ext.refl _)) _
set_option maxRecDepth 20000 in
set_option maxHeartbeats 2000000 in
theorem cinsert_any {O : Own} {V : World} {bs : Nat} {m : Int} {s : Sv} {g : Nat} (h : LS O V bs m s O g V) (hm : 1000 ≤ m ∧ m ≤ 800000000) (bc : Nat) (hbc : blk V bc = some (clE bs)) (pr : Nat) (hpr : pr ≤ 255) (a : Option Addr) (n c : Nat) (args : List (List UInt8)) (hX : Rw encS 1 V a n args) (h4 : n ≤ 4) (h64 : ∀ x ∈ args, x.length ≤ 64) : Calls Tryz.prog 44 #[.pointer (some ⟨bc, 0, none⟩), .int .i64 (pr : Int), .slice a n c] V (fun e V' => ∃ O1 V1, V.Extends V1 ∧ LS O V bs m s O1 g V1 ∧ CcPost O1 V1 bs m s ([1, UInt8.ofNat 2, UInt8.ofNat ((encF pr args).length / 256), UInt8.ofNat (encF pr args).length] ++ encF pr args) e V') := by
  obtain ⟨raw, eraw⟩ : ∃ raw, raw = [1, UInt8.ofNat 2, UInt8.ofNat ((encF pr args).length / 256), UInt8.ofNat (encF pr args).length] ++ encF pr args := ⟨_, rfl⟩
  obtain ⟨Q, hQ⟩ : ∃ Q : Ending → World → Prop, Q = fun e V' => ∃ O1 V1, V.Extends V1 ∧ LS O V bs m s O1 g V1 ∧ CcPost O1 V1 bs m s raw e V' := ⟨_, rfl⟩
  rw [← eraw, ← hQ]
  have HQ := hid_of hQ
  have hal : args.length = n := hX.1
  have hlen : (encF pr args).length ≤ 262 := by
    have := flat_len args h64
    unfold encF
    simp only [List.length_cons]
    omega
  have hrl : raw.length ≤ 65536 := by
    rw [eraw, List.length_append]
    show 4 + _ ≤ _
    omega
  obtain ⟨V1, eV1⟩ : ∃ V1, V1 = V.alloc (.cells (itemE false (pr : Int) a n c).toArray 67) := ⟨_, rfl⟩
  have hx1 : V.Extends V1 := by rw [eV1]; exact extends_alloc (ext_Ext (Ext.refl _)) _
  have hL1 := h.grow hx1
  have hbi : blk V1 V.heap.size = some (itemE false (pr : Int) a n c) := by rw [eV1, blk_alloc, if_pos rfl]
  have hIt : ItsC V1 (some ⟨V.heap.size, 0, none⟩) 1 [(false, (pr : Int), args)] := by
    refine ⟨[⟨false, (pr : Int), a, n, c⟩], ⟨rfl, fun i x hx => ?_⟩, rfl, fun i d it h1 h2 => ?_⟩
    · have hi : i = 0 := by have := (List.getElem?_eq_some_iff.1 hx).1; simp at this; exact this
      subst hi
      obtain rfl := Option.some.inj hx
      exact ⟨V.heap.size, _, rfl, hbi, by show 1 * 3 ≤ 3; omega, rfl⟩
    · have hi : i = 0 := by have := (List.getElem?_eq_some_iff.1 h1).1; simp at this; exact this
      subst hi
      obtain rfl := Option.some.inj h1
      obtain rfl := Option.some.inj h2
      exact ⟨rfl, rfl, hX.sub (Sub.ext hx1)⟩
  have hca := call_rq hL1.self hm bc ((hx1.blk (blk_lt hbc)).trans hbc) 2 none 0 0 (some ⟨V.heap.size, 0, none⟩) 1 1 0 none 0 0 ⟨2, [], [(false, (pr : Int), args)], 0, []⟩ (fun W hx => ⟨rfl, ⟨rfl, fun h => absurd rfl h, .inl rfl⟩, Nat.le_refl _, by decide, hIt.sub (Sub.ext hx), rfl, ⟨rfl, fun i x hx => by simp at hx⟩⟩) 2 (.inr (.inr rfl)) (encF pr args) ⟨rfl, by decide, by decide, by omega, fun e => by omega, fun _ => ⟨_, rfl, ⟨by show (0 : Int) ≤ (pr : Int); omega, by show (pr : Int) ≤ 255; omega, by show args.length ≤ 4; omega, h64⟩, by show _ = encF ((pr : Int)).toNat args; rw [Int.toNat_natCast], rfl, rfl⟩, fun e => by omega, fun e => by omega⟩ raw eraw hrl
  have HL1 := hid_of hL1
  have HX1 := hid_of hx1
  clear hQ h hX eraw hrl hbc hIt hbi hlen hL1 hx1
  subst eV1
  go_enter Tryz.func44, Tryz.ntmps44
  go_wp2_with fail
  refine hca.mono ?_
  rintro e V2 ⟨rep, q, q', s', O', g', rfl, hsr, hRB, hdr, hL2, hco, hRC⟩
  dsimp only
  rw [dr_code hRB hdr]
  obtain ⟨RE, eRE⟩ : ∃ RE, RE = Reply.enc rep := ⟨_, rfl⟩
  have rl : RE.length = 11 := by rw [eRE]; exact Reply.length_enc _
  have rok : okCells 11 RE = true := by rw [eRE]; exact Reply.ok_enc _
  have rs : splice Reply.zero.enc 0 RE = RE := by rw [eRE]; exact Reply.all_set _ _
  have rz : Reply.zero.enc.length = 11 := Reply.length_enc _
  rw [← eRE]
  have HP : Hid (∀ V3, V2.Extends V3 → Q (.returned (.int .i64 q.code)) V3) := fun V3 hx => by
    rw [HQ.out]
    exact ⟨_, _, HX1.out, HL1.out, q, s', _, g', rfl, hsr, hL2.grow hx⟩
  clear hca hsr hRB hdr hL2 hco hRC eRE HQ HL1 HX1
  go_wp2_with fail
  try go_ret
  refine HP.out _ ?_
  exact extends_alloc (ext_Ext (Ext.refl _)) _
end Go.Proofs.Qxb6500787aGreat
