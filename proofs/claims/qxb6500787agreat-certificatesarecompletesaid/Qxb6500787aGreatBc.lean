import Derived.Test.Qxb6500787aGreatBb
import Derived.Test.Qxb6500787aGreatBa
import Derived.Test.Qxb6500787aGreatZv
import Derived.Test.Qxb6500787aGreatSe

import Derived.StillTailTactics
import Derived.Deep.QuietTactic
import Derived.BigQuiet
import Derived.Deep.RegionHeld
import Derived.Deep.CutRange
import Derived.Laws.ResultCell
import Derived.Laws.Rows
import Derived.DeepKeys
import Derived.DataBytes
import Derived.Laws.StructEq
import Derived.Laws.AppendOwn
import Derived.Laws.MakeOwn
import Derived.Lib.AppendStr
set_option linter.unusedSimpArgs false
set_option linter.unusedVariables false
namespace Go.Proofs.Qxb6500787aGreat
open Go.RowKit Go.Blk
attribute [local go_sem ↓] execOp_load execOp_store execOp_alloc
attribute [local go_sem] Tryz.ld26 Tryz.st26 Tryz.ld27 Tryz.st27 Tryz.ld28 Tryz.st28 Tryz.ld3 Tryz.st3 Tryz.ld29 Tryz.st29 Tryz.ld44 Tryz.st44 Tryz.ld4 Tryz.st4 Tryz.ld50 Tryz.st50 Tryz.ld32 Tryz.st32 Tryz.ld49 Tryz.st49 Tryz.ld68 Tryz.st68 Tryz.ld9 Tryz.st9 Tryz.ld40 Tryz.st40 Tryz.ld138 Tryz.st138 Tryz.ld139 Tryz.st139 Tryz.ld146 Tryz.st146 Tryz.ld183 Tryz.st183 Tryz.ld184 Tryz.st184 Tryz.ld192 Tryz.st192 Tryz.ld195 Tryz.st195 Tryz.ld217 Tryz.st217 Tryz.ld159 Tryz.st159 Tryz.ld142 Tryz.st142 Tryz.ld2 Tryz.st2 Tryz.ld5 Tryz.st5 Tryz.ld12 Tryz.st12 Tryz.ld21 Tryz.st21 Tryz.ld22 Tryz.st22 Tryz.ld24 Tryz.st24 Tryz.ld58 Tryz.st58 Tryz.ld97 Tryz.st97 Tryz.ld101 Tryz.st101 Tryz.ld116 Tryz.st116 Tryz.ld121 Tryz.st121 Tryz.ld135 Tryz.st135 Tryz.ld136 Tryz.st136 Tryz.ld143 Tryz.st143 Tryz.ld148 Tryz.st148 Tryz.ld154 Tryz.st154 Tryz.ld173 Tryz.st173 Tryz.ld187 Tryz.st187 Tryz.ld222 Tryz.st222 Tryz.ld241 Tryz.st241 Tryz.ld248 Tryz.st248 Tryz.ld268 Tryz.st268 Tryz.ld272 Tryz.st272 Tryz.ld153 Tryz.st153 Tryz.ld255 Tryz.st255 Tryz.ld256 Tryz.st256 Tryz.ld129 Tryz.st129 Tryz.ld152 Tryz.st152 Tryz.ld31 Tryz.st31 Tryz.ld46 Tryz.st46 Tryz.ld52 Tryz.st52 Tryz.ld54 Tryz.st54 Tryz.ld60 Tryz.st60 Tryz.ld70 Tryz.st70 Tryz.ld74 Tryz.st74 Tryz.ld93 Tryz.st93 Tryz.ld141 Tryz.st141 Tryz.ld151 Tryz.st151 Tryz.ld170 Tryz.st170 Tryz.ld186 Tryz.st186 Tryz.ld189 Tryz.st189 Tryz.ld194 Tryz.st194 Tryz.ld197 Tryz.st197 Tryz.ld219 Tryz.st219 Tryz.ld224 Tryz.st224 Tryz.ld230 Tryz.st230 Tryz.ld235 Tryz.st235 Tryz.ld243 Tryz.st243 Tryz.ld247 Tryz.st247 Tryz.ld252 Tryz.st252 Tryz.ld258 Tryz.st258 Tryz.al153 Tryz.al255 Tryz.al256 Tryz.al129 Tryz.al152 Tryz.al31 Tryz.al46 Tryz.al52 Tryz.al54 Tryz.al60 Tryz.al70 Tryz.al74 Tryz.al93 Tryz.al141 Tryz.al151 Tryz.al170 Tryz.al186 Tryz.al189 Tryz.al194 Tryz.al197 Tryz.al219 Tryz.al224 Tryz.al230 Tryz.al235 Tryz.al243 Tryz.al247 Tryz.al252 Tryz.al258
attribute [local go_sem] Request.length_enc Request.ok_enc Request.all_get Request.all_set Request.kind_get Request.kind_set Request.blob_get Request.blob_set Request.items_get Request.items_set Request.pred_get Request.pred_set Request.slots_get Request.slots_set Trace.length_enc Trace.ok_enc Trace.all_get Trace.all_set Trace.op_get Trace.op_set Trace.calls_get Trace.calls_set Item.length_enc Item.ok_enc Item.all_get Item.all_set Item.del_get Item.del_set Item.pred_get Item.pred_set Item.args_get Item.args_set Reply.length_enc Reply.ok_enc Reply.all_get Reply.all_set Reply.code_get Reply.code_set Reply.kind_get Reply.kind_set Reply.index_get Reply.index_set Reply.yes_get Reply.yes_set Reply.preds_get Reply.preds_set Reply.rules_get Reply.rules_set Reply.arity_get Reply.arity_set Reply.rows_get Reply.rows_set Reply.fact_get Reply.fact_set Reply.fact_del_get Reply.fact_del_set Reply.fact_pred_get Reply.fact_pred_set Reply.fact_args_get Reply.fact_args_set GEntry.length_enc GEntry.ok_enc GEntry.all_get GEntry.all_set GEntry.seq_get GEntry.seq_set GEntry.kind_get GEntry.kind_set GEntry.code_get GEntry.code_set GOp.length_enc GOp.ok_enc GOp.all_get GOp.all_set GOp.kind_get GOp.kind_set GOp.raw_get GOp.raw_set Reader.length_enc Reader.ok_enc Reader.all_get Reader.all_set Reader.buf_get Reader.buf_set Reader.at__get Reader.at__set Slot.length_enc Slot.ok_enc Slot.all_get Slot.all_set Slot.bound_get Slot.bound_set Slot.name_get Slot.name_set Session.length_enc Session.ok_enc Session.all_get Session.all_set Session.svc_get Session.svc_set Session.buf_get Session.buf_set Session.closed_get Session.closed_set GProgram.length_enc GProgram.ok_enc GProgram.all_get GProgram.all_set GProgram.pool_get GProgram.pool_set GProgram.preds_get GProgram.preds_set GProgram.rules_get GProgram.rules_set GProgram.strata_get GProgram.strata_set PredInfo.length_enc PredInfo.ok_enc PredInfo.all_get PredInfo.all_set PredInfo.arity_get PredInfo.arity_set PredInfo.base_get PredInfo.base_set PredInfo.stratum_get PredInfo.stratum_set Change.length_enc Change.ok_enc Change.all_get Change.all_set Change.del_get Change.del_set Change.pred_get Change.pred_set Change.t_get Change.t_set Store.length_enc Store.ok_enc Store.all_get Store.all_set Store.names_get Store.names_set Store.arity_get Store.arity_set Store.rows_get Store.rows_set Src.length_enc Src.ok_enc Src.all_get Src.all_set Src.b_get Src.b_set Src.at__get Src.at__set Atom.length_enc Atom.ok_enc Atom.all_get Atom.all_set Atom.pred_get Atom.pred_set Atom.args_get Atom.args_set GRule.length_enc GRule.ok_enc GRule.all_get GRule.all_set GRule.head_get GRule.head_set GRule.body_get GRule.body_set GRule.head_pred_get GRule.head_pred_set GRule.head_args_get GRule.head_args_set Cert.length_enc Cert.ok_enc Cert.all_get Cert.all_set Cert.names_get Cert.names_set Cert.nodes_get Cert.nodes_set Fact.length_enc Fact.ok_enc Fact.all_get Fact.all_set Fact.pred_get Fact.pred_set Fact.t_get Fact.t_set Literal.length_enc Literal.ok_enc Literal.all_get Literal.all_set Literal.neg_get Literal.neg_set Literal.atom_get Literal.atom_set Literal.atom_pred_get Literal.atom_pred_set Literal.atom_args_get Literal.atom_args_set Engine.length_enc Engine.ok_enc Engine.all_get Engine.all_set Engine.prog_get Engine.prog_set Engine.st_get Engine.st_set SrcCertm.length_enc SrcCertm.ok_enc SrcCertm.all_get SrcCertm.all_set SrcCertm.b_get SrcCertm.b_set SrcCertm.at__get SrcCertm.at__set GNode.length_enc GNode.ok_enc GNode.all_get GNode.all_set GNode.rule_get GNode.rule_set GNode.pred_get GNode.pred_set GNode.vals_get GNode.vals_set GNode.refs_get GNode.refs_set Term.length_enc Term.ok_enc Term.all_get Term.all_set Term.var_get Term.var_set Term.n_get Term.n_set Env.length_enc Env.ok_enc Env.all_get Env.all_set Env.val_get Env.val_set Env.set_get Env.set_set
attribute [local go_sem] size_put size_ext blk_put free_put blk_alloc free_alloc blk_drew free_drew blk_ext free_ext lookOr_some putOr_some segAt_some cellAt_some storeIn_some put_put put_alloc_new length_arr ok_arr_u8 ok_arr_u32 ok_arr_u64 ok_arr_i64 ok_arr_sl cellsV_agg cellsV_int cellsV_bool cellsV_string cellsV_pointer cellsV_slice cellsV_sl ok_int ok_bool ok_string ok_pointer ok_slice ok_sl toList_arr seg_arr set_arr nth_splice nth_splice0 seg_splice seg_splice0 splice_splice splice_splice0 length_splice_if
attribute [local go_sem ↓] execOp_box
attribute [local go_sem] box_run nth_arr_u8 put_arr_u8 blk_drewN free_drewN put_drewN blk_raw free_raw
/-- Slots that ask for nothing. -/
def frS (n : Nat) : List Slt := List.replicate n (false, [])
theorem frS_len (n : Nat) : (frS n).length = n := List.length_replicate
theorem frS_mem {n : Nat} {x : Slt} (h : x ∈ frS n) : x = (false, []) := (List.mem_replicate.1 h).2
theorem frS_flat : ∀ n, (frS n).flatMap encSl = List.replicate n 0
  | 0 => rfl
  | n + 1 => by
    show encSl (false, []) ++ (frS n).flatMap encSl = _
    rw [frS_flat n]; rfl
theorem encP_fr (p n : Nat) : encP p (frS n) = UInt8.ofNat p :: UInt8.ofNat n :: List.replicate n 0 := by
  unfold encP
  rw [frS_flat, frS_len]
theorem encP_fr_len (p n : Nat) : (encP p (frS n)).length = n + 2 := by
  rw [encP_fr]; simp
/-- The question "all facts of predicate p?". -/
def rawP (p n : Nat) : List UInt8 := [1, UInt8.ofNat 6, UInt8.ofNat ((encP p (frS n)).length / 256), UInt8.ofNat (encP p (frS n)).length] ++ encP p (frS n)
theorem rawP_len (p n : Nat) : (rawP p n).length = n + 6 := by
  unfold rawP
  rw [List.length_append, encP_fr_len]; simp; omega
theorem dec_raw0 (y : UInt8) : decF [1, UInt8.ofNat 6, UInt8.ofNat 0, UInt8.ofNat 2, y, UInt8.ofNat 0] = (0, ⟨6, [], [], ((y.toNat : Nat) : Int), frS 0⟩) := by rfl
theorem dec_raw1 (y : UInt8) : decF [1, UInt8.ofNat 6, UInt8.ofNat 0, UInt8.ofNat 3, y, UInt8.ofNat 1, 0] = (0, ⟨6, [], [], ((y.toNat : Nat) : Int), frS 1⟩) := by rfl
theorem dec_raw2 (y : UInt8) : decF [1, UInt8.ofNat 6, UInt8.ofNat 0, UInt8.ofNat 4, y, UInt8.ofNat 2, 0, 0] = (0, ⟨6, [], [], ((y.toNat : Nat) : Int), frS 2⟩) := by rfl
theorem dec_raw3 (y : UInt8) : decF [1, UInt8.ofNat 6, UInt8.ofNat 0, UInt8.ofNat 5, y, UInt8.ofNat 3, 0, 0, 0] = (0, ⟨6, [], [], ((y.toNat : Nat) : Int), frS 3⟩) := by rfl
theorem dec_raw4 (y : UInt8) : decF [1, UInt8.ofNat 6, UInt8.ofNat 0, UInt8.ofNat 6, y, UInt8.ofNat 4, 0, 0, 0, 0] = (0, ⟨6, [], [], ((y.toNat : Nat) : Int), frS 4⟩) := by rfl
theorem dec_rawP {p n : Nat} (hp : p ≤ 255) (hn : n ≤ 4) : decF (rawP p n) = (0, ⟨6, [], [], (p : Int), frS n⟩) := by
  have e : (((UInt8.ofNat p).toNat : Nat) : Int) = (p : Int) := by
    rw [UInt8.toNat_ofNat', Nat.mod_eq_of_lt (by omega)]
  unfold rawP
  rw [encP_fr_len, encP_fr, ← e]
  rcases (show n = 0 ∨ n = 1 ∨ n = 2 ∨ n = 3 ∨ n = 4 from by omega) with rfl | rfl | rfl | rfl | rfl
  · exact dec_raw0 _
  · exact dec_raw1 _
  · exact dec_raw2 _
  · exact dec_raw3 _
  · exact dec_raw4 _
theorem rqV_P {p n : Nat} (hp : p ≤ 255) (hn : n ≤ 4) : RqV 6 ⟨6, [], [], (p : Int), frS n⟩ (encP p (frS n)) := by
  refine ⟨rfl, by omega, by omega, by rw [encP_fr_len]; omega, fun h => by omega, fun h => by omega, fun h => by omega, fun _ => ⟨p, rfl, hp, by show (frS n).length ≤ 4; rw [frS_len]; exact hn, fun s hs => by rw [frS_mem hs]; exact Nat.zero_le _, rfl, rfl, rfl⟩⟩
theorem svR_P {s s' : Sv} {t : InsS} {q : PRep} {p n : Nat} (ht : s.inst = some t) (hp : p ≤ 255) (hn : n ≤ 4) (h : svR s (rawP p n) q s') : q = ptQ t p (frS n) ∧ s'.inst = some t ∧ s'.img = s.img := by
  obtain ⟨s1, h, rfl⟩ := h
  rw [dec_rawP hp hn] at h
  rcases h with ⟨h, -⟩ | ⟨-, h⟩
  · exact absurd rfl h
  have ht' : s.clr.inst = some t := ht
  rcases h with ⟨h, -⟩ | ⟨-, h, -⟩ | ⟨t', h1, h⟩
  · exact absurd (show (6 : Int) = 1 from h) (by decide)
  · rw [ht'] at h; cases h
  · rw [ht'] at h1; cases h1
    rcases h with ⟨e, -⟩ | ⟨e, -⟩ | ⟨e, -⟩ | ⟨e, -⟩ | ⟨-, e1, e2⟩ | ⟨e, -⟩
    · exact absurd (show (6 : Int) = 2 from e) (by decide)
    · exact absurd (show (6 : Int) = 3 from e) (by decide)
    · exact absurd (show (6 : Int) = 4 from e) (by decide)
    · exact absurd (show (6 : Int) = 5 from e) (by decide)
    · refine ⟨e1, ?_, ?_⟩
      · show s1.inst = some t
        rw [e2]
        split
        · exact ht'
        · rfl
      · show s1.img = s.img
        rw [e2]
        split <;> rfl
    · exact absurd (show (6 : Int) = 7 from e) (by decide)
/-- The reply to "all facts of predicate p?". -/
def lsQ (t : InsS) (p : Nat) : List UInt8 := encR' (ptQ t p (frS (arP t.p p)))
def lsF (s : Sv) : List (List UInt8) := match s.inst with
  | none => []
  | some t => (List.range t.p.preds.length).map (lsQ t)
def imgF (s : Sv) : List UInt8 := match s.inst with
  | none => []
  | some _ => s.img
theorem ls_sim {s w : Sv} (h : SvSim s w) {m m' : Int} (hs : SvI m s) (hw : SvI m' w) : lsF s = lsF w := by
  unfold lsF
  rcases h.ins with ⟨e1, e2⟩ | ⟨t, u, e1, e2, e3⟩
  · rw [e1, e2]
  · rw [e1, e2]
    dsimp only
    rw [← e3.p]
    refine List.map_congr_left fun p _ => ?_
    unfold lsQ
    rw [← e3.p, pt_sim e3 (hs.ins t e1) (hw.ins u e2) (fun x hx => by rw [frS_mem hx])]
theorem use_sim {s w : Sv} (h : SvSim s w) {m m' : Int} (hs : SvI m s) (hw : SvI m' w) : inUse s = inUse w := by
  unfold inUse
  rcases h.ins with ⟨e1, e2⟩ | ⟨t, u, e1, e2, e3⟩
  · rw [e1, e2]
  · rw [e1, e2]
    exact e3.live (hs.ins t e1) (hw.ins u e2)
theorem img_sim {s w : Sv} (h : SvSim s w) : imgF s = imgF w := by
  unfold imgF
  rcases h.ins with ⟨e1, e2⟩ | ⟨t, u, e1, e2, e3⟩
  · rw [e1, e2]
  · rw [e1, e2]; exact h.img
theorem SvI.le {m m' : Int} {s : Sv} (h : SvI m s) (hm : m ≤ m') : SvI m' s := ⟨h.ins, fun k => by have := h.rst k; omega⟩
/-- A label that no block bears. -/
theorem lab_new (O : Own) : ∀ n, ∃ J, ∀ k, k < n → ∀ j, J ≤ j → O k ≠ .a 5 j
  | 0 => ⟨0, fun k hk => absurd hk (by omega)⟩
  | n + 1 => by
    obtain ⟨J, hJ⟩ := lab_new O n
    cases hO : O n with
    | no => exact ⟨J, fun k hk j hj => by
        by_cases h : k < n
        · exact hJ k h j hj
        · rw [show k = n by omega, hO]; exact fun e => by cases e⟩
    | a i j0 => exact ⟨J + j0 + 1, fun k hk j hj => by
        by_cases h : k < n
        · exact hJ k h j (by omega)
        · rw [show k = n by omega, hO]
          intro e
          have := (Lab.a.inj e).2
          omega⟩
/-- The image is the old one or the request's. -/
theorem svR.img {s s' : Sv} {raw : List UInt8} {q : PRep} (h : svR s raw q s') : s'.img = s.img ∨ s'.img = (decF raw).2.blob := by
  obtain ⟨s1, h, rfl⟩ := h
  show s1.img = s.img ∨ s1.img = _
  rcases h with ⟨-, -, rfl⟩ | ⟨-, h⟩
  · exact .inl rfl
  rcases h with ⟨-, rep, hP, -⟩ | ⟨-, -, -, rfl⟩ | ⟨t, ht, h⟩
  · rcases hP with ⟨-, -, rfl⟩ | ⟨-, vc, p', -, ⟨-, -, rfl⟩ | ⟨-, P, -, ⟨-, -, rfl⟩ | ⟨-, -, rfl⟩⟩⟩
    · exact .inl rfl
    · exact .inl rfl
    · exact .inl rfl
    · exact .inr rfl
  · exact .inl rfl
  · refine .inl ?_
    rcases h with ⟨-, rep, hP, -⟩ | ⟨-, rep, hP, -⟩ | ⟨-, rep, hP, -⟩ | ⟨-, rep, hP, -⟩ | ⟨-, -, e⟩ | ⟨-, -, e⟩
    · rcases hP with ⟨-, -, rfl⟩ | ⟨-, mc, t1, co, -, ⟨-, -, rfl⟩ | ⟨-, ⟨-, -, rfl⟩ | ⟨-, code, ix, R', -, ⟨-, -, rfl⟩ | ⟨-, -, rfl⟩⟩⟩⟩ <;> rfl
    · rcases hP with ⟨-, -, rfl⟩ | ⟨-, code, ix, R', -, ⟨-, -, rfl⟩ | ⟨-, -, rfl⟩⟩ <;> rfl
    · rcases hP with ⟨c, i, -, -, rfl⟩ | ⟨-, mc, t1, co, -, ⟨-, -, rfl⟩ | ⟨-, ⟨-, -, rfl⟩ | ⟨-, code, ix, R', -, ⟨-, -, rfl⟩ | ⟨-, -, rfl⟩⟩⟩⟩ <;> rfl
    · have e : s1 = (qyF s.clr t (itP (decF raw).2) (itA (decF raw).2)).2 := congrArg Prod.snd hP
      rw [e]; unfold qyF
      split <;> rfl
    · rw [e]; split <;> rfl
    · rw [e]; rfl
theorem svR.imgl {s s' : Sv} {raw : List UInt8} (hr : raw.length ≤ 65536) {q : PRep} (h : svR s raw q s') (hs : s.img.length ≤ 65536) : s'.img.length ≤ 65536 := by
  rcases h.img with e | e
  · rw [e]; exact hs
  · rw [e]; exact (decF_small hr).1
theorem encR'_le {q : PRep} (h : RepB q) : 2 ≤ (encR' q).length ∧ (encR' q).length ≤ 199990 := by
  have h1 := rows_len h.rows.2
  have h2 : (q.fargs.flatMap encN).length ≤ 65 * q.fargs.length := flat_len q.fargs h.fargs.2
  have h3 := h.rows.1
  have h4 := h.fargs.1
  unfold encR'
  rw [List.length_append]
  have h5 : (encBd q).length ≤ 199988 := by
    unfold encBd
    split
    · split <;> simp
    · split
      · simp
      · split
        · simp
        · split
          · rw [List.length_append]; show 3 + _ ≤ _; omega
          · split
            · rw [List.length_append]; show 2 + _ ≤ _; omega
            · simp
  show 2 ≤ 2 + _ ∧ 2 + _ ≤ _
  omega
theorem lsF_le {s : Sv} {m : Int} (hI : SvI m s) {r : List UInt8} (h : r ∈ lsF s) : r.length ≤ 199990 := by
  unfold lsF at h
  cases ht : s.inst with
  | none => rw [ht] at h; cases h
  | some t =>
    rw [ht] at h
    obtain ⟨p, hp, rfl⟩ := List.mem_map.1 h
    have hG := hI.ins t ht
    have h4 := (pI_ar hG.pg.pok (List.mem_range.1 hp)).2
    exact (encR'_le (ptQ.k hG p (frS (arP t.p p)) (by rw [frS_len]; exact h4)).b).2
end Go.Proofs.Qxb6500787aGreat
