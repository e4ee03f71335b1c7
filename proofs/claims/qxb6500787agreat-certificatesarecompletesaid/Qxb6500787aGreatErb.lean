import Derived.Test.Qxb6500787aGreatEra
import Derived.StillTailTactics
import Derived.Deep.QuietTactic
import Derived.BigQuiet
import Derived.Deep.RegionHeld
import Derived.Deep.CutRange
import Derived.Laws.ResultCell
import Derived.Laws.Rows
import Derived.DeepKeys
import Derived.DataBytes
import Derived.Laws.StructEq
import Derived.Laws.AppendOwn
import Derived.Laws.MakeOwn
import Derived.Lib.AppendStr
set_option linter.unusedSimpArgs false
set_option linter.unusedVariables false
namespace Go.Proofs.Qxb6500787aGreat.Nw
open Go.RowKit Go.Blk
attribute [local go_sem ↓] execOp_load execOp_store execOp_alloc
attribute [local go_sem] Tryz.ld26 Tryz.st26 Tryz.ld27 Tryz.st27 Tryz.ld28 Tryz.st28 Tryz.ld3 Tryz.st3 Tryz.ld29 Tryz.st29 Tryz.ld44 Tryz.st44 Tryz.ld4 Tryz.st4 Tryz.ld50 Tryz.st50 Tryz.ld32 Tryz.st32 Tryz.ld49 Tryz.st49 Tryz.ld68 Tryz.st68 Tryz.ld9 Tryz.st9 Tryz.ld40 Tryz.st40 Tryz.ld138 Tryz.st138 Tryz.ld139 Tryz.st139 Tryz.ld146 Tryz.st146 Tryz.ld183 Tryz.st183 Tryz.ld184 Tryz.st184 Tryz.ld192 Tryz.st192 Tryz.ld195 Tryz.st195 Tryz.ld217 Tryz.st217 Tryz.ld159 Tryz.st159 Tryz.ld142 Tryz.st142 Tryz.ld2 Tryz.st2 Tryz.ld5 Tryz.st5 Tryz.ld12 Tryz.st12 Tryz.ld21 Tryz.st21 Tryz.ld22 Tryz.st22 Tryz.ld24 Tryz.st24 Tryz.ld58 Tryz.st58 Tryz.ld97 Tryz.st97 Tryz.ld101 Tryz.st101 Tryz.ld116 Tryz.st116 Tryz.ld121 Tryz.st121 Tryz.ld135 Tryz.st135 Tryz.ld136 Tryz.st136 Tryz.ld143 Tryz.st143 Tryz.ld148 Tryz.st148 Tryz.ld154 Tryz.st154 Tryz.ld173 Tryz.st173 Tryz.ld187 Tryz.st187 Tryz.ld222 Tryz.st222 Tryz.ld241 Tryz.st241 Tryz.ld248 Tryz.st248 Tryz.ld268 Tryz.st268 Tryz.ld272 Tryz.st272 Tryz.ld153 Tryz.st153 Tryz.ld255 Tryz.st255 Tryz.ld256 Tryz.st256 Tryz.ld129 Tryz.st129 Tryz.ld152 Tryz.st152 Tryz.ld31 Tryz.st31 Tryz.ld46 Tryz.st46 Tryz.ld52 Tryz.st52 Tryz.ld54 Tryz.st54 Tryz.ld60 Tryz.st60 Tryz.ld70 Tryz.st70 Tryz.ld74 Tryz.st74 Tryz.ld93 Tryz.st93 Tryz.ld141 Tryz.st141 Tryz.ld151 Tryz.st151 Tryz.ld170 Tryz.st170 Tryz.ld186 Tryz.st186 Tryz.ld189 Tryz.st189 Tryz.ld194 Tryz.st194 Tryz.ld197 Tryz.st197 Tryz.ld219 Tryz.st219 Tryz.ld224 Tryz.st224 Tryz.ld230 Tryz.st230 Tryz.ld235 Tryz.st235 Tryz.ld243 Tryz.st243 Tryz.ld247 Tryz.st247 Tryz.ld252 Tryz.st252 Tryz.ld258 Tryz.st258 Tryz.al153 Tryz.al255 Tryz.al256 Tryz.al129 Tryz.al152 Tryz.al31 Tryz.al46 Tryz.al52 Tryz.al54 Tryz.al60 Tryz.al70 Tryz.al74 Tryz.al93 Tryz.al141 Tryz.al151 Tryz.al170 Tryz.al186 Tryz.al189 Tryz.al194 Tryz.al197 Tryz.al219 Tryz.al224 Tryz.al230 Tryz.al235 Tryz.al243 Tryz.al247 Tryz.al252 Tryz.al258
attribute [local go_sem] Request.length_enc Request.ok_enc Request.all_get Request.all_set Request.kind_get Request.kind_set Request.blob_get Request.blob_set Request.items_get Request.items_set Request.pred_get Request.pred_set Request.slots_get Request.slots_set Trace.length_enc Trace.ok_enc Trace.all_get Trace.all_set Trace.op_get Trace.op_set Trace.calls_get Trace.calls_set Item.length_enc Item.ok_enc Item.all_get Item.all_set Item.del_get Item.del_set Item.pred_get Item.pred_set Item.args_get Item.args_set Reply.length_enc Reply.ok_enc Reply.all_get Reply.all_set Reply.code_get Reply.code_set Reply.kind_get Reply.kind_set Reply.index_get Reply.index_set Reply.yes_get Reply.yes_set Reply.preds_get Reply.preds_set Reply.rules_get Reply.rules_set Reply.arity_get Reply.arity_set Reply.rows_get Reply.rows_set Reply.fact_get Reply.fact_set Reply.fact_del_get Reply.fact_del_set Reply.fact_pred_get Reply.fact_pred_set Reply.fact_args_get Reply.fact_args_set GEntry.length_enc GEntry.ok_enc GEntry.all_get GEntry.all_set GEntry.seq_get GEntry.seq_set GEntry.kind_get GEntry.kind_set GEntry.code_get GEntry.code_set GOp.length_enc GOp.ok_enc GOp.all_get GOp.all_set GOp.kind_get GOp.kind_set GOp.raw_get GOp.raw_set Reader.length_enc Reader.ok_enc Reader.all_get Reader.all_set Reader.buf_get Reader.buf_set Reader.at__get Reader.at__set Slot.length_enc Slot.ok_enc Slot.all_get Slot.all_set Slot.bound_get Slot.bound_set Slot.name_get Slot.name_set Session.length_enc Session.ok_enc Session.all_get Session.all_set Session.svc_get Session.svc_set Session.buf_get Session.buf_set Session.closed_get Session.closed_set GProgram.length_enc GProgram.ok_enc GProgram.all_get GProgram.all_set GProgram.pool_get GProgram.pool_set GProgram.preds_get GProgram.preds_set GProgram.rules_get GProgram.rules_set GProgram.strata_get GProgram.strata_set PredInfo.length_enc PredInfo.ok_enc PredInfo.all_get PredInfo.all_set PredInfo.arity_get PredInfo.arity_set PredInfo.base_get PredInfo.base_set PredInfo.stratum_get PredInfo.stratum_set Change.length_enc Change.ok_enc Change.all_get Change.all_set Change.del_get Change.del_set Change.pred_get Change.pred_set Change.t_get Change.t_set Store.length_enc Store.ok_enc Store.all_get Store.all_set Store.names_get Store.names_set Store.arity_get Store.arity_set Store.rows_get Store.rows_set Src.length_enc Src.ok_enc Src.all_get Src.all_set Src.b_get Src.b_set Src.at__get Src.at__set Atom.length_enc Atom.ok_enc Atom.all_get Atom.all_set Atom.pred_get Atom.pred_set Atom.args_get Atom.args_set GRule.length_enc GRule.ok_enc GRule.all_get GRule.all_set GRule.head_get GRule.head_set GRule.body_get GRule.body_set GRule.head_pred_get GRule.head_pred_set GRule.head_args_get GRule.head_args_set Cert.length_enc Cert.ok_enc Cert.all_get Cert.all_set Cert.names_get Cert.names_set Cert.nodes_get Cert.nodes_set Fact.length_enc Fact.ok_enc Fact.all_get Fact.all_set Fact.pred_get Fact.pred_set Fact.t_get Fact.t_set Literal.length_enc Literal.ok_enc Literal.all_get Literal.all_set Literal.neg_get Literal.neg_set Literal.atom_get Literal.atom_set Literal.atom_pred_get Literal.atom_pred_set Literal.atom_args_get Literal.atom_args_set Engine.length_enc Engine.ok_enc Engine.all_get Engine.all_set Engine.prog_get Engine.prog_set Engine.st_get Engine.st_set SrcCertm.length_enc SrcCertm.ok_enc SrcCertm.all_get SrcCertm.all_set SrcCertm.b_get SrcCertm.b_set SrcCertm.at__get SrcCertm.at__set GNode.length_enc GNode.ok_enc GNode.all_get GNode.all_set GNode.rule_get GNode.rule_set GNode.pred_get GNode.pred_set GNode.vals_get GNode.vals_set GNode.refs_get GNode.refs_set Term.length_enc Term.ok_enc Term.all_get Term.all_set Term.var_get Term.var_set Term.n_get Term.n_set Env.length_enc Env.ok_enc Env.all_get Env.all_set Env.val_get Env.val_set Env.set_get Env.set_set
attribute [local go_sem] size_put size_ext blk_put free_put blk_alloc free_alloc blk_drew free_drew blk_ext free_ext lookOr_some putOr_some segAt_some cellAt_some storeIn_some put_put put_alloc_new length_arr ok_arr_u8 ok_arr_u32 ok_arr_u64 ok_arr_i64 ok_arr_sl cellsV_agg cellsV_int cellsV_bool cellsV_string cellsV_pointer cellsV_slice cellsV_sl ok_int ok_bool ok_string ok_pointer ok_slice ok_sl toList_arr seg_arr set_arr nth_splice nth_splice0 seg_splice seg_splice0 splice_splice splice_splice0 length_splice_if
attribute [local go_sem ↓] execOp_box
attribute [local go_sem] box_run nth_arr_u8 put_arr_u8 blk_drewN free_drewN put_drewN blk_raw free_raw
theorem DR.grow {w0 : World} {O : Own} {br bp : Nat} {a : Option Addr} {n c p : Nat} {r : Reply} {V : World} (h : DR w0 O br bp a n c p r V) {V' : World} (hx : V.Extends V') : DR w0 (lab O V.heap.size .no) br bp a n c p r V' ∧ Fr isD O V (lab O V.heap.size .no) V' := by
  have hF : Fr (fun _ => False) O V (lab O V.heap.size .no) V' := Fr.grow hx
  refine ⟨h.fr hF (fun e => e) (fun e => e) (fun e => e) (fun k hk => ?_), hF.mono (fun _ e => e.elim)⟩
  by_cases h1 : k < V.heap.size
  · rw [lab_lt h1]; exact h.old k hk
  · exact absurd (Nat.lt_of_lt_of_le hk h.rd.2.2.1.size) h1
attribute [local go_sem ↓] execOp_slice execOp_convert execOp_bslice execOp_make execOp_build
attribute [local go_sem] rd_len rd0 rd1 rd_set1 it_len it0 it1 it2 it_all it_put it_put2 it_ok
set_option maxRecDepth 20000 in
set_option maxHeartbeats 1000000 in
theorem body1' (w0 W : World) (O : Own) (br bp : Nat) (a : Option Addr) (n c p : Nat) (hD : DR w0 O br bp a n c p (repZ 0 1 (-1)) W) (hn : n ≤ 1000000) (hnc : n ≤ c) (hc : c ≤ 9223372036854775807) (xs : List UInt8) (hX : Bs w0 a n xs) : Calls Tryz.prog 80 #[.pointer (some ⟨br, 0, none⟩), .pointer (some ⟨bp, 0, none⟩)] W (BdPost w0 O W br bp a n c xs (ldF (xs.drop p)).1 (ldF (xs.drop p)).2.1 (ldF (xs.drop p)).2.2) := by
  obtain ⟨Q, hQ⟩ : ∃ Q, Q = BdPost w0 O W br bp a n c xs (ldF (xs.drop p)).1 (ldF (xs.drop p)).2.1 (ldF (xs.drop p)).2.2 := ⟨_, rfl⟩
  rw [← hQ]
  have HQ := hid_of hQ
  have HD := hid_of hD
  have HX := hid_of hX
  have hxl := hX.1
  have hpn : p ≤ n := hD.rd.2.2.2.2
  have hcb := hD.cell
  have hfb := hD.fre
  obtain ⟨RZ, hRZ⟩ : ∃ RZ, RZ = Reply.enc (repZ 0 1 (-1)) := ⟨_, rfl⟩
  rw [← hRZ] at hcb
  have hz1 : nth RZ 1 = some (.int .i64 1) := by rw [hRZ]; rfl
  have hzl : RZ.length = 11 := by rw [hRZ]; exact Reply.length_enc _
  have HRZ := hid_of hRZ
  clear hQ hD hX hRZ
  have HBAD : Hid (∀ V p', ldF (xs.drop p) = (5, prZ 0 1 (-1), []) → Rdr w0 br a n c p' V → Side (isR br) W V → Q (.returned (.int .i64 5)) V) := fun V p' e h1 h2 => by
    obtain ⟨h3, h4⟩ := HD.out.side h1 h2
    rw [HQ.out, e]
    exact ⟨_, _, p', rfl, h3, h4.mono (fun l e => .inl e), fun h5 => absurd h5 (by decide)⟩
  go_enter Tryz.func80, Tryz.ntmps80
  by_cases hp : p = n
  · have HE : Hid (ldF (xs.drop p) = (5, prZ 0 1 (-1), [])) := by show _ = _; rw [List.drop_of_length_le (by omega)]; rfl
    go_wp2_with fail
    refine (u8_noneX w0 W br a n c p HD.out.rd hn hnc hc xs HX.out hp).mono ?_
    rintro e W1 ⟨rfl, g1, g2⟩
    have HR1 := hid_of g1
    have HS1 := hid_of g2
    clear g1 g2 hcb hfb
    dsimp only
    go_wp2_with fail
    refine (u8_noneX w0 W1 br a n c p HR1.out hn hnc hc xs HX.out hp).mono ?_
    rintro e W2 ⟨rfl, g1, g2⟩
    have HP1 := hid_of (HBAD.out W2 p HE.out g1 (HS1.out.trans g2))
    clear g1 g2
    dsimp only
    go_wp2_with fail
    all_goals first | exact HP1.out | (go_ret; exact HP1.out)
  obtain ⟨x, hx⟩ : ∃ x, xs[p]? = some x := ⟨_, List.getElem?_eq_getElem (by omega)⟩
  obtain ⟨pr, hpr⟩ : ∃ k, k = x.toNat := ⟨_, rfl⟩
  have HDr : Hid (xs.drop p = x :: xs.drop (p + 1)) := drop_at hx
  have HXp : Hid (xs[p]? = some x ∧ pr = x.toNat) := ⟨hx, hpr⟩
  clear hx hpr
  go_wp2_with fail
  refine (u8_natX w0 W br a n c p HD.out.rd hn hnc hc xs HX.out x HXp.out.1 pr HXp.out.2).mono ?_
  rintro e W1 ⟨rfl, g1, g2⟩
  have HR1 := hid_of g1
  have HS1 := hid_of g2
  clear g1 g2 hcb hfb
  dsimp only
  by_cases hp1 : p + 1 = n
  · have HE : Hid (ldF (xs.drop p) = (5, prZ 0 1 (-1), [])) := by show _ = _; rw [HDr.out, List.drop_of_length_le (by omega)]; rfl
    go_wp2_with fail
    refine (u8_noneX w0 W1 br a n c (p + 1) HR1.out hn hnc hc xs HX.out hp1).mono ?_
    rintro e W2 ⟨rfl, g1, g2⟩
    have HP1 := hid_of (HBAD.out W2 (p + 1) HE.out g1 (HS1.out.trans g2))
    clear g1 g2
    dsimp only
    go_wp2_with fail
    all_goals first | exact HP1.out | (go_ret; exact HP1.out)
  obtain ⟨x2, hx2⟩ : ∃ x, xs[p + 1]? = some x := ⟨_, List.getElem?_eq_getElem (by omega)⟩
  obtain ⟨pk, hpk⟩ : ∃ k, k = x2.toNat := ⟨_, rfl⟩
  have HE : Hid (ldF (xs.drop p) = (0, ⟨0, 1, -1, false, (pr : Int), (pk : Int), 0, [], 0, []⟩, xs.drop (p + 1 + 1))) := by
    show _ = _
    rw [HDr.out, drop_at hx2, HXp.out.2, hpk]; rfl
  have HX2 : Hid (xs[p + 1]? = some x2 ∧ pk = x2.toNat) := ⟨hx2, hpk⟩
  clear hx2 hpk HBAD
  go_wp2_with fail
  refine (u8_natX w0 W1 br a n c (p + 1) HR1.out hn hnc hc xs HX.out x2 HX2.out.1 pk HX2.out.2).mono ?_
  rintro e W2 ⟨rfl, g1, g2⟩
  obtain ⟨hD2, hF2⟩ := HD.out.side g1 (HS1.out.trans g2)
  obtain ⟨hD3, hF3⟩ := hD2.set ⟨0, 1, -1, false, (pr : Int), (pk : Int), 0, ⟨none, 0, 0⟩, ⟨false, 0, ⟨none, 0, 0⟩⟩⟩
  have HP : Hid (Q (.returned (.int .i64 0)) (put W2 bp (Reply.enc ⟨0, 1, -1, false, (pr : Int), (pk : Int), 0, ⟨none, 0, 0⟩, ⟨false, 0, ⟨none, 0, 0⟩⟩⟩))) := by
    show Q _ _
    rw [HQ.out, HE.out]
    exact ⟨_, _, _, rfl, hD3, (hF2.mono (fun l e => .inl e)).trans (hF3.mono (fun l e => .inr (.inl e))), fun _ => ⟨rfl, ⟨rfl, rfl, rfl, rfl, rfl, rfl, rfl, RowsC.nil _, rfl, ⟨rfl, fun i x hx => by simp at hx⟩⟩⟩⟩
  have hcb2 := hD2.cell
  have hfb2 := hD2.fre
  rw [← HRZ.out] at hcb2
  have hsp : splice (splice RZ 4 [.int .i64 (pr : Int)]) 5 [.int .i64 (pk : Int)] = Reply.enc ⟨0, 1, -1, false, (pr : Int), (pk : Int), 0, ⟨none, 0, 0⟩, ⟨false, 0, ⟨none, 0, 0⟩⟩⟩ := by rw [HRZ.out]; rfl
  rw [← hsp] at HP
  clear g1 g2 hD2 hD3 hF2 hF3 hsp
  dsimp only
  go_wp2_with fail
  all_goals first | exact HP.out | (go_ret; exact HP.out)
set_option maxRecDepth 20000 in
set_option maxHeartbeats 1000000 in
theorem body5' (w0 W : World) (O : Own) (br bp : Nat) (a : Option Addr) (n c p : Nat) (hD : DR w0 O br bp a n c p (repZ 0 5 (-1)) W) (hn : n ≤ 1000000) (hnc : n ≤ c) (hc : c ≤ 9223372036854775807) (xs : List UInt8) (hX : Bs w0 a n xs) : Calls Tryz.prog 80 #[.pointer (some ⟨br, 0, none⟩), .pointer (some ⟨bp, 0, none⟩)] W (BdPost w0 O W br bp a n c xs (tagF (xs.drop p)).1 ⟨0, 5, -1, (tagF (xs.drop p)).2.1, 0, 0, 0, [], 0, []⟩ (tagF (xs.drop p)).2.2) := by
  obtain ⟨Q, hQ⟩ : ∃ Q, Q = BdPost w0 O W br bp a n c xs (tagF (xs.drop p)).1 ⟨0, 5, -1, (tagF (xs.drop p)).2.1, 0, 0, 0, [], 0, []⟩ (tagF (xs.drop p)).2.2 := ⟨_, rfl⟩
  rw [← hQ]
  have HQ := hid_of hQ
  have HD := hid_of hD
  have HX := hid_of hX
  have hxl := hX.1
  have hpn : p ≤ n := hD.rd.2.2.2.2
  have hcb := hD.cell
  have hfb := hD.fre
  obtain ⟨RZ, hRZ⟩ : ∃ RZ, RZ = Reply.enc (repZ 0 5 (-1)) := ⟨_, rfl⟩
  rw [← hRZ] at hcb
  have hz1 : nth RZ 1 = some (.int .i64 5) := by rw [hRZ]; rfl
  have hzl : RZ.length = 11 := by rw [hRZ]; exact Reply.length_enc _
  have HRZ := hid_of hRZ
  clear hQ hD hX hRZ
  have htag := tag_anyX w0 W br a n c p HD.out.rd hn hnc hc xs HX.out
  go_enter Tryz.func80, Tryz.ntmps80
  go_wp2_with fail
  refine htag.mono ?_
  rintro e W1 ⟨rfl, p2, hR2, hS2, hrest⟩
  obtain ⟨cd, hcd⟩ : ∃ cd, cd = (tagF (xs.drop p)).1 := ⟨_, rfl⟩
  obtain ⟨yv, hyv⟩ : ∃ yv, yv = (tagF (xs.drop p)).2.1 := ⟨_, rfl⟩
  rw [← hcd, ← hyv]
  rw [← hcd, ← hyv] at HQ
  rw [← hcd] at hrest
  obtain ⟨hD2, hF2⟩ := HD.out.side hR2 hS2
  dsimp only
  by_cases hz : cd = 0
  · obtain ⟨hD3, hF3⟩ := hD2.set ⟨0, 5, -1, yv, 0, 0, 0, ⟨none, 0, 0⟩, ⟨false, 0, ⟨none, 0, 0⟩⟩⟩
    have HP : Hid (Q (.returned (.int .i64 0)) (put W1 bp (Reply.enc ⟨0, 5, -1, yv, 0, 0, 0, ⟨none, 0, 0⟩, ⟨false, 0, ⟨none, 0, 0⟩⟩⟩))) := by
      show Q _ _
      rw [HQ.out, hz]
      exact ⟨_, _, p2, rfl, hD3, (hF2.mono (fun l e => .inl e)).trans (hF3.mono (fun l e => .inr (.inl e))), fun _ => ⟨hrest hz, ⟨rfl, rfl, rfl, rfl, rfl, rfl, rfl, RowsC.nil _, rfl, ⟨rfl, fun i x hx => by simp at hx⟩⟩⟩⟩
    have hcb2 := hD2.cell
    have hfb2 := hD2.fre
    rw [← HRZ.out] at hcb2
    have hsp : splice RZ 3 [.bool yv] = Reply.enc ⟨0, 5, -1, yv, 0, 0, 0, ⟨none, 0, 0⟩, ⟨false, 0, ⟨none, 0, 0⟩⟩⟩ := by rw [HRZ.out]; rfl
    rw [← hsp] at HP
    clear hD2 hD3 hF2 hF3 hsp hR2 hS2 hrest hcd hyv hcb hfb htag
    subst hz
    go_wp2_with fail
    all_goals first | exact HP.out | (go_ret; exact HP.out)
  · have HP : Hid (Q (.returned (.int .i64 cd)) W1) := by
      show Q _ _
      rw [HQ.out]
      exact ⟨_, _, p2, rfl, hD2, hF2.mono (fun l e => .inl e), fun h => absurd h hz⟩
    have hzb : (cd == 0) = false := by simp [hz]
    clear hD2 hF2 hR2 hS2 hrest hcd hyv hcb hfb htag
    go_wp2_with fail
    all_goals first | exact HP.out | (go_ret; exact HP.out)
set_option maxRecDepth 20000 in
set_option maxHeartbeats 1000000 in
theorem body6' (w0 W : World) (O : Own) (br bp : Nat) (a : Option Addr) (n c p : Nat) (hD : DR w0 O br bp a n c p (repZ 0 6 (-1)) W) (h98 : ∀ k, k < W.heap.size → O k ≠ .a 9 8) (hn : n ≤ 1000000) (hnc : n ≤ c) (hc : c ≤ 9223372036854775807) (xs : List UInt8) (hX : Bs w0 a n xs) : Calls Tryz.prog 80 #[.pointer (some ⟨br, 0, none⟩), .pointer (some ⟨bp, 0, none⟩)] W (BdPost w0 O W br bp a n c xs (rowsF (xs.drop p)).1 ⟨0, 6, -1, false, 0, 0, ((rowsF (xs.drop p)).2.1 : Int), (rowsF (xs.drop p)).2.2.1, 0, []⟩ (rowsF (xs.drop p)).2.2.2) := by
  obtain ⟨Q, hQ⟩ : ∃ Q, Q = BdPost w0 O W br bp a n c xs (rowsF (xs.drop p)).1 ⟨0, 6, -1, false, 0, 0, ((rowsF (xs.drop p)).2.1 : Int), (rowsF (xs.drop p)).2.2.1, 0, []⟩ (rowsF (xs.drop p)).2.2.2 := ⟨_, rfl⟩
  rw [← hQ]
  have HQ := hid_of hQ
  have HD := hid_of hD
  have HX := hid_of hX
  have hxl := hX.1
  have hpn : p ≤ n := hD.rd.2.2.2.2
  have hcb := hD.cell
  have hfb := hD.fre
  obtain ⟨RZ, hRZ⟩ : ∃ RZ, RZ = Reply.enc (repZ 0 6 (-1)) := ⟨_, rfl⟩
  rw [← hRZ] at hcb
  have hz1 : nth RZ 1 = some (.int .i64 6) := by rw [hRZ]; rfl
  have hzl : RZ.length = 11 := by rw [hRZ]; exact Reply.length_enc _
  have HRZ := hid_of hRZ
  clear hQ hD hX hRZ
  have hrows := rows_any w0 W O br bp a n c p HD.out h98 hn hnc hc xs HX.out
  go_enter Tryz.func80, Tryz.ntmps80
  go_wp2_with fail
  refine hrows.mono ?_
  rintro e W1 ⟨O', r', p', rfl, h1, h2, h3⟩
  dsimp only
  have HP : Hid (Q (.returned (.int .i64 (rowsF (xs.drop p)).1)) W1) := by
    show Q _ _
    rw [HQ.out]
    exact ⟨O', r', p', rfl, h1, h2, h3⟩
  obtain ⟨cd, hcd⟩ : ∃ cd, cd = (rowsF (xs.drop p)).1 := ⟨_, rfl⟩
  rw [← hcd] at HP ⊢
  clear h1 h2 h3 hcd hrows hcb hfb
  go_wp2_with fail
  all_goals first | exact HP.out | (go_ret; exact HP.out)
set_option maxRecDepth 20000 in
set_option maxHeartbeats 1000000 in
theorem body7' (w0 W : World) (O : Own) (br bp : Nat) (a : Option Addr) (n c p : Nat) (hD : DR w0 O br bp a n c p (repZ 0 7 (-1)) W) (hn : n ≤ 1000000) (hnc : n ≤ c) (hc : c ≤ 9223372036854775807) (xs : List UInt8) (hX : Bs w0 a n xs) : Calls Tryz.prog 80 #[.pointer (some ⟨br, 0, none⟩), .pointer (some ⟨bp, 0, none⟩)] W (BdPost w0 O W br bp a n c xs (factF (xs.drop p)).1 ⟨0, 7, -1, false, 0, 0, 0, [], (factF (xs.drop p)).2.1, (factF (xs.drop p)).2.2.1⟩ (factF (xs.drop p)).2.2.2) := by
  obtain ⟨Q, hQ⟩ : ∃ Q, Q = BdPost w0 O W br bp a n c xs (factF (xs.drop p)).1 ⟨0, 7, -1, false, 0, 0, 0, [], (factF (xs.drop p)).2.1, (factF (xs.drop p)).2.2.1⟩ (factF (xs.drop p)).2.2.2 := ⟨_, rfl⟩
  rw [← hQ]
  have HQ := hid_of hQ
  have HD := hid_of hD
  have HX := hid_of hX
  have hxl := hX.1
  have hpn : p ≤ n := hD.rd.2.2.2.2
  have hcb := hD.cell
  have hfb := hD.fre
  obtain ⟨RZ, hRZ⟩ : ∃ RZ, RZ = Reply.enc (repZ 0 7 (-1)) := ⟨_, rfl⟩
  rw [← hRZ] at hcb
  have hz1 : nth RZ 1 = some (.int .i64 7) := by rw [hRZ]; rfl
  have hzl : RZ.length = 11 := by rw [hRZ]; exact Reply.length_enc _
  have HRZ := hid_of hRZ
  clear hQ hD hX hRZ
  have hfact := fact_anyX w0 W br a n c p HD.out.rd hn hnc hc xs HX.out
  go_enter Tryz.func80, Tryz.ntmps80
  go_wp2_with fail
  refine hfact.mono ?_
  rintro e W1 ⟨pr, pa, pn, pc, rfl, hrow, p2, hR2, hS2, hrest⟩
  obtain ⟨cd, hcd⟩ : ∃ cd, cd = (factF (xs.drop p)).1 := ⟨_, rfl⟩
  rw [← hcd]
  rw [← hcd] at HQ hrow hrest
  obtain ⟨hD2, hF2⟩ := HD.out.side hR2 hS2
  obtain ⟨O2, hO2⟩ : ∃ O2, O2 = lab O W.heap.size .no := ⟨_, rfl⟩
  rw [← hO2] at hD2 hF2
  have HD2 := hid_of hD2
  have HF2 : Hid (Fr isD O W O2 W1) := hF2.mono (fun l e => .inl e)
  have HRW : Hid (cd = 0 → pr = (factF (xs.drop p)).2.1 ∧ Rw encS 1 (core O2 W1) pa pn (factF (xs.drop p)).2.2.1) := fun h => by
    obtain ⟨h1, h2⟩ := hrow h
    refine ⟨h1, (rw_own encS_len h2).1.tocore (fun b C e _ => ?_)⟩
    have h9 := (row_at h2 b (by rw [e]; rfl)).1
    rw [hO2]; exact lab_ge h9
  have HRS := hid_of hrest
  clear hD2 hF2 hR2 hS2 hrest hrow hO2 hcd hcb hfb hfact
  dsimp only
  go_upto_region 17 with fail
  refine wp_world (fun V => blk V W1.heap.size = some (itemE false pr pa pn pc) ∧ free V W1.heap.size = true ∧ Hid (W1.Extends V)) ⟨?_, ?_, ?_⟩ ?_
  · first | (rw [blk_put, if_pos rfl, blk_alloc, if_pos rfl]; rfl) | (rw [blk_alloc, if_pos rfl])
  · first | (rw [free_put, free_alloc, if_pos rfl]) | (rw [free_alloc, if_pos rfl])
  · first | exact extends_alloc (ext_Ext (Ext.refl _)) _ | exact (Side.put (D := fun k => k = W1.heap.size) (Side.refl _ _) rfl _).extends (extends_alloc (ext_Ext (Ext.refl _)) _) (fun k hk => by omega)
  rintro V3 ⟨hb11, hf11, HX3⟩
  obtain ⟨hD3, hF3⟩ := HD2.out.grow HX3.out
  obtain ⟨b11, hb⟩ : ∃ b11, b11 = W1.heap.size := ⟨_, rfl⟩
  have hne : ¬ b11 = bp := by have := blk_lt HD2.out.cell; omega
  rw [← hb] at hb11 hf11 ⊢
  obtain ⟨O3, hO3⟩ : ∃ O3, O3 = lab O2 W1.heap.size .no := ⟨_, rfl⟩
  rw [← hO3] at hD3 hF3
  clear hb
  by_cases hz : cd = 0
  · obtain ⟨hD4, hF4⟩ := hD3.set ⟨0, 7, -1, false, 0, 0, 0, ⟨none, 0, 0⟩, ⟨false, pr, ⟨pa, pn, pc⟩⟩⟩
    have HP : Hid (Q (.returned (.int .i64 0)) (put V3 bp (Reply.enc ⟨0, 7, -1, false, 0, 0, 0, ⟨none, 0, 0⟩, ⟨false, pr, ⟨pa, pn, pc⟩⟩⟩))) := by
      show Q _ _
      rw [HQ.out, hz]
      obtain ⟨h1, h2⟩ := HRW.out hz
      exact ⟨O3, _, p2, rfl, hD4, (HF2.out.trans hF3).trans (hF4.mono (fun l e => .inr (.inl e))), fun _ => ⟨HRS.out hz, ⟨rfl, rfl, rfl, rfl, rfl, rfl, rfl, RowsC.nil _, h1, (h2.sub (Sub.ext (core_fr hF3 isD_no))).sub (Sub.ext (core_fr hF4 (fun e => by cases e)))⟩⟩⟩
    have hcb2 := hD3.cell
    have hfb2 := hD3.fre
    rw [← HRZ.out] at hcb2
    have hsp : splice RZ 8 (itemE false pr pa pn pc) = Reply.enc ⟨0, 7, -1, false, 0, 0, 0, ⟨none, 0, 0⟩, ⟨false, pr, ⟨pa, pn, pc⟩⟩⟩ := by rw [HRZ.out]; rfl
    rw [← hsp] at HP
    clear hD3 hD4 hF3 hF4 hsp hO3
    subst hz
    go_wp2_with fail
    all_goals first | exact HP.out | (go_ret; exact HP.out)
  · have HP : Hid (Q (.returned (.int .i64 cd)) V3) := by
      show Q _ _
      rw [HQ.out]
      exact ⟨O3, _, p2, rfl, hD3, HF2.out.trans hF3, fun h => absurd h hz⟩
    have hzb : (cd == 0) = false := by simp [hz]
    clear hD3 hF3 hO3
    go_wp2_with fail
    all_goals first | exact HP.out | (go_ret; exact HP.out)
set_option maxRecDepth 20000 in
set_option maxHeartbeats 1000000 in
theorem bodyZ' (k : Nat) (hk : k ≠ 1 ∧ k ≠ 5 ∧ k ≠ 6 ∧ k ≠ 7) (w0 W : World) (O : Own) (br bp : Nat) (a : Option Addr) (n c p : Nat) (hD : DR w0 O br bp a n c p (repZ 0 (k : Int) (-1)) W) (hn : n ≤ 1000000) (hnc : n ≤ c) (hc : c ≤ 9223372036854775807) (xs : List UInt8) (hX : Bs w0 a n xs) : Calls Tryz.prog 80 #[.pointer (some ⟨br, 0, none⟩), .pointer (some ⟨bp, 0, none⟩)] W (BdPost w0 O W br bp a n c xs 0 (prZ 0 (k : Int) (-1)) (xs.drop p)) := by
  obtain ⟨Q, hQ⟩ : ∃ Q, Q = BdPost w0 O W br bp a n c xs 0 (prZ 0 (k : Int) (-1)) (xs.drop p) := ⟨_, rfl⟩
  rw [← hQ]
  have HQ := hid_of hQ
  have HD := hid_of hD
  have HX := hid_of hX
  have hxl := hX.1
  have hpn : p ≤ n := hD.rd.2.2.2.2
  have hcb := hD.cell
  have hfb := hD.fre
  obtain ⟨RZ, hRZ⟩ : ∃ RZ, RZ = Reply.enc (repZ 0 (k : Int) (-1)) := ⟨_, rfl⟩
  rw [← hRZ] at hcb
  have hz1 : nth RZ 1 = some (.int .i64 (k : Int)) := by rw [hRZ]; rfl
  have hzl : RZ.length = 11 := by rw [hRZ]; exact Reply.length_enc _
  have HRZ := hid_of hRZ
  clear hQ hD hX hRZ
  have HP : Hid (Q (.returned (.int .i64 0)) W) := by
    show Q _ _
    rw [HQ.out]
    exact ⟨O, _, p, rfl, HD.out, Fr.refl _ _ _, fun _ => ⟨rfl, repz_c _ _ _ _⟩⟩
  have k1 : ¬ (k : Int) = 1 := by omega
  have k5 : ¬ (k : Int) = 5 := by omega
  have k6 : ¬ (k : Int) = 6 := by omega
  have k7 : ¬ (k : Int) = 7 := by omega
  have k1b : ((k : Int) == 1) = false := by simp; omega
  have k5b : ((k : Int) == 5) = false := by simp; omega
  have k6b : ((k : Int) == 6) = false := by simp; omega
  have k7b : ((k : Int) == 7) = false := by simp; omega
  clear hk
  go_enter Tryz.func80, Tryz.ntmps80
  go_wp2_with fail
  all_goals first | exact HP.out | (go_ret; exact HP.out)
theorem body_any (k : Nat) (w0 W : World) (O : Own) (br bp : Nat) (a : Option Addr) (n c p : Nat) (hD : DR w0 O br bp a n c p (repZ 0 (k : Int) (-1)) W) (h98 : ∀ k, k < W.heap.size → O k ≠ .a 9 8) (hn : n ≤ 1000000) (hnc : n ≤ c) (hc : c ≤ 9223372036854775807) (xs : List UInt8) (hX : Bs w0 a n xs) : Calls Tryz.prog 80 #[.pointer (some ⟨br, 0, none⟩), .pointer (some ⟨bp, 0, none⟩)] W (BdPost w0 O W br bp a n c xs (bdF k (xs.drop p)).1 (bdF k (xs.drop p)).2.1 (bdF k (xs.drop p)).2.2) := by
  unfold bdF
  by_cases h1 : k = 1
  · subst h1
    rw [if_pos rfl]
    exact body1' w0 W O br bp a n c p hD hn hnc hc xs hX
  rw [if_neg h1]
  by_cases h5 : k = 5
  · subst h5
    rw [if_pos rfl]
    exact body5' w0 W O br bp a n c p hD hn hnc hc xs hX
  rw [if_neg h5]
  by_cases h6 : k = 6
  · subst h6
    rw [if_pos rfl]
    exact body6' w0 W O br bp a n c p hD h98 hn hnc hc xs hX
  rw [if_neg h6]
  by_cases h7 : k = 7
  · subst h7
    rw [if_pos rfl]
    exact body7' w0 W O br bp a n c p hD hn hnc hc xs hX
  rw [if_neg h7]
  exact bodyZ' k ⟨h1, h5, h6, h7⟩ w0 W O br bp a n c p hD hn hnc hc xs hX
end Go.Proofs.Qxb6500787aGreat.Nw
