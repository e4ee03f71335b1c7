import Derived.Test.Qxb6500787aGreatEb

import Derived.StillTailTactics
import Derived.Deep.QuietTactic
import Derived.BigQuiet
import Derived.Deep.RegionHeld
import Derived.Deep.CutRange
import Derived.Laws.ResultCell
import Derived.Laws.Rows
import Derived.DeepKeys
import Derived.DataBytes
import Derived.Laws.StructEq
import Derived.Laws.AppendOwn
import Derived.Laws.MakeOwn
import Derived.Lib.AppendStr
set_option linter.unusedSimpArgs false
set_option linter.unusedVariables false
namespace Go.Proofs.Qxb6500787aGreat
open Go.RowKit Go.Blk
attribute [local go_sem ↓] execOp_load execOp_store execOp_alloc
attribute [local go_sem] Tryz.ld26 Tryz.st26 Tryz.ld27 Tryz.st27 Tryz.ld28 Tryz.st28 Tryz.ld3 Tryz.st3 Tryz.ld29 Tryz.st29 Tryz.ld44 Tryz.st44 Tryz.ld4 Tryz.st4 Tryz.ld50 Tryz.st50 Tryz.ld32 Tryz.st32 Tryz.ld49 Tryz.st49 Tryz.ld68 Tryz.st68 Tryz.ld9 Tryz.st9 Tryz.ld40 Tryz.st40 Tryz.ld138 Tryz.st138 Tryz.ld139 Tryz.st139 Tryz.ld146 Tryz.st146 Tryz.ld183 Tryz.st183 Tryz.ld184 Tryz.st184 Tryz.ld192 Tryz.st192 Tryz.ld195 Tryz.st195 Tryz.ld217 Tryz.st217 Tryz.ld159 Tryz.st159 Tryz.ld142 Tryz.st142 Tryz.ld2 Tryz.st2 Tryz.ld5 Tryz.st5 Tryz.ld12 Tryz.st12 Tryz.ld21 Tryz.st21 Tryz.ld22 Tryz.st22 Tryz.ld24 Tryz.st24 Tryz.ld58 Tryz.st58 Tryz.ld97 Tryz.st97 Tryz.ld101 Tryz.st101 Tryz.ld116 Tryz.st116 Tryz.ld121 Tryz.st121 Tryz.ld135 Tryz.st135 Tryz.ld136 Tryz.st136 Tryz.ld143 Tryz.st143 Tryz.ld148 Tryz.st148 Tryz.ld154 Tryz.st154 Tryz.ld173 Tryz.st173 Tryz.ld187 Tryz.st187 Tryz.ld222 Tryz.st222 Tryz.ld241 Tryz.st241 Tryz.ld248 Tryz.st248 Tryz.ld268 Tryz.st268 Tryz.ld272 Tryz.st272 Tryz.ld153 Tryz.st153 Tryz.ld255 Tryz.st255 Tryz.ld256 Tryz.st256 Tryz.ld129 Tryz.st129 Tryz.ld152 Tryz.st152 Tryz.ld31 Tryz.st31 Tryz.ld46 Tryz.st46 Tryz.ld52 Tryz.st52 Tryz.ld54 Tryz.st54 Tryz.ld60 Tryz.st60 Tryz.ld70 Tryz.st70 Tryz.ld74 Tryz.st74 Tryz.ld93 Tryz.st93 Tryz.ld141 Tryz.st141 Tryz.ld151 Tryz.st151 Tryz.ld170 Tryz.st170 Tryz.ld186 Tryz.st186 Tryz.ld189 Tryz.st189 Tryz.ld194 Tryz.st194 Tryz.ld197 Tryz.st197 Tryz.ld219 Tryz.st219 Tryz.ld224 Tryz.st224 Tryz.ld230 Tryz.st230 Tryz.ld235 Tryz.st235 Tryz.ld243 Tryz.st243 Tryz.ld247 Tryz.st247 Tryz.ld252 Tryz.st252 Tryz.ld258 Tryz.st258 Tryz.al153 Tryz.al255 Tryz.al256 Tryz.al129 Tryz.al152 Tryz.al31 Tryz.al46 Tryz.al52 Tryz.al54 Tryz.al60 Tryz.al70 Tryz.al74 Tryz.al93 Tryz.al141 Tryz.al151 Tryz.al170 Tryz.al186 Tryz.al189 Tryz.al194 Tryz.al197 Tryz.al219 Tryz.al224 Tryz.al230 Tryz.al235 Tryz.al243 Tryz.al247 Tryz.al252 Tryz.al258
attribute [local go_sem] Request.length_enc Request.ok_enc Request.all_get Request.all_set Request.kind_get Request.kind_set Request.blob_get Request.blob_set Request.items_get Request.items_set Request.pred_get Request.pred_set Request.slots_get Request.slots_set Trace.length_enc Trace.ok_enc Trace.all_get Trace.all_set Trace.op_get Trace.op_set Trace.calls_get Trace.calls_set Item.length_enc Item.ok_enc Item.all_get Item.all_set Item.del_get Item.del_set Item.pred_get Item.pred_set Item.args_get Item.args_set Reply.length_enc Reply.ok_enc Reply.all_get Reply.all_set Reply.code_get Reply.code_set Reply.kind_get Reply.kind_set Reply.index_get Reply.index_set Reply.yes_get Reply.yes_set Reply.preds_get Reply.preds_set Reply.rules_get Reply.rules_set Reply.arity_get Reply.arity_set Reply.rows_get Reply.rows_set Reply.fact_get Reply.fact_set Reply.fact_del_get Reply.fact_del_set Reply.fact_pred_get Reply.fact_pred_set Reply.fact_args_get Reply.fact_args_set GEntry.length_enc GEntry.ok_enc GEntry.all_get GEntry.all_set GEntry.seq_get GEntry.seq_set GEntry.kind_get GEntry.kind_set GEntry.code_get GEntry.code_set GOp.length_enc GOp.ok_enc GOp.all_get GOp.all_set GOp.kind_get GOp.kind_set GOp.raw_get GOp.raw_set Reader.length_enc Reader.ok_enc Reader.all_get Reader.all_set Reader.buf_get Reader.buf_set Reader.at__get Reader.at__set Slot.length_enc Slot.ok_enc Slot.all_get Slot.all_set Slot.bound_get Slot.bound_set Slot.name_get Slot.name_set Session.length_enc Session.ok_enc Session.all_get Session.all_set Session.svc_get Session.svc_set Session.buf_get Session.buf_set Session.closed_get Session.closed_set GProgram.length_enc GProgram.ok_enc GProgram.all_get GProgram.all_set GProgram.pool_get GProgram.pool_set GProgram.preds_get GProgram.preds_set GProgram.rules_get GProgram.rules_set GProgram.strata_get GProgram.strata_set PredInfo.length_enc PredInfo.ok_enc PredInfo.all_get PredInfo.all_set PredInfo.arity_get PredInfo.arity_set PredInfo.base_get PredInfo.base_set PredInfo.stratum_get PredInfo.stratum_set Change.length_enc Change.ok_enc Change.all_get Change.all_set Change.del_get Change.del_set Change.pred_get Change.pred_set Change.t_get Change.t_set Store.length_enc Store.ok_enc Store.all_get Store.all_set Store.names_get Store.names_set Store.arity_get Store.arity_set Store.rows_get Store.rows_set Src.length_enc Src.ok_enc Src.all_get Src.all_set Src.b_get Src.b_set Src.at__get Src.at__set Atom.length_enc Atom.ok_enc Atom.all_get Atom.all_set Atom.pred_get Atom.pred_set Atom.args_get Atom.args_set GRule.length_enc GRule.ok_enc GRule.all_get GRule.all_set GRule.head_get GRule.head_set GRule.body_get GRule.body_set GRule.head_pred_get GRule.head_pred_set GRule.head_args_get GRule.head_args_set Cert.length_enc Cert.ok_enc Cert.all_get Cert.all_set Cert.names_get Cert.names_set Cert.nodes_get Cert.nodes_set Fact.length_enc Fact.ok_enc Fact.all_get Fact.all_set Fact.pred_get Fact.pred_set Fact.t_get Fact.t_set Literal.length_enc Literal.ok_enc Literal.all_get Literal.all_set Literal.neg_get Literal.neg_set Literal.atom_get Literal.atom_set Literal.atom_pred_get Literal.atom_pred_set Literal.atom_args_get Literal.atom_args_set Engine.length_enc Engine.ok_enc Engine.all_get Engine.all_set Engine.prog_get Engine.prog_set Engine.st_get Engine.st_set SrcCertm.length_enc SrcCertm.ok_enc SrcCertm.all_get SrcCertm.all_set SrcCertm.b_get SrcCertm.b_set SrcCertm.at__get SrcCertm.at__set GNode.length_enc GNode.ok_enc GNode.all_get GNode.all_set GNode.rule_get GNode.rule_set GNode.pred_get GNode.pred_set GNode.vals_get GNode.vals_set GNode.refs_get GNode.refs_set Term.length_enc Term.ok_enc Term.all_get Term.all_set Term.var_get Term.var_set Term.n_get Term.n_set Env.length_enc Env.ok_enc Env.all_get Env.all_set Env.val_get Env.val_set Env.set_get Env.set_set
attribute [local go_sem] size_put size_ext blk_put free_put blk_alloc free_alloc blk_drew free_drew blk_ext free_ext lookOr_some putOr_some segAt_some cellAt_some storeIn_some put_put put_alloc_new length_arr ok_arr_u8 ok_arr_u32 ok_arr_u64 ok_arr_i64 ok_arr_sl cellsV_agg cellsV_int cellsV_bool cellsV_string cellsV_pointer cellsV_slice cellsV_sl ok_int ok_bool ok_string ok_pointer ok_slice ok_sl toList_arr seg_arr set_arr nth_splice nth_splice0 seg_splice seg_splice0 splice_splice splice_splice0 length_splice_if
attribute [local go_sem ↓] execOp_box
attribute [local go_sem] box_run nth_arr_u8 put_arr_u8 blk_drewN free_drewN put_drewN blk_raw free_raw

/-- The service's instance and the model's state tell the same. -/
structure AgT (t : InsS) (m : MS) : Prop where
  ld : m.ld = true
  p : t.p = m.p
  v : PgV t.p
  a : Agm t.p t.N (basR t.p t.R) m.F
def AgS (s : Sv) (m : MS) : Prop := (s.inst = none ∧ m.ld = false) ∨ ∃ t, s.inst = some t ∧ AgT t m
theorem AgT.msi {t : InsS} {m : MS} (h : AgT t m) (ht : InG t) : MsI m := by
  have h1 := msi_of ht h.v h.a
  have e : m = ⟨true, t.p, m.F⟩ := by
    obtain ⟨l, p, F⟩ := m
    have e1 : l = true := h.ld
    have e2 : t.p = p := h.p
    rw [e1, e2]
  rw [e]; exact h1
theorem AgT.sim {t u : InsS} {m : MS} (h : AgT t m) (hs : Sim t u) (hu : InG u) : AgT u m := by
  refine ⟨h.ld, hs.p.symm.trans h.p, by rw [← hs.p]; exact h.v, hu.nb, ?_, fun q => ?_, by rw [← hs.p]; exact h.a.ar⟩
  · rw [h.a.len, basR_len, basR_len, hs.p]
  · rw [h.a.nm q, hs.nm q, hs.p]
theorem aftF_ix : ∀ (L : List It) (F : List (List NRow)) (i : Nat), (aftF F i L).1 ≠ 0 → 0 ≤ (aftF F i L).2.1 ∧ ((aftF F i L).1 = 14 ∨ (aftF F i L).1 = 15)
  | [], F, i, h => absurd rfl h
  | it :: L, F, i, h => by
    rw [aftF] at h ⊢
    cases hd : it.1 with
    | false =>
      rw [hd, if_pos rfl] at h
      rw [if_pos rfl]
      by_cases e : it.2.2 ∈ F.getD it.2.1.toNat []
      · rw [if_pos e]; exact ⟨by show (0 : Int) ≤ (i : Int); omega, .inl rfl⟩
      · rw [if_neg e] at h ⊢; exact aftF_ix L _ _ h
    | true =>
      rw [hd, if_neg (by decide)] at h
      rw [if_neg (by decide)]
      by_cases e : it.2.2 ∈ F.getD it.2.1.toNat []
      · rw [if_pos e] at h ⊢; exact aftF_ix L _ _ h
      · rw [if_neg e]; exact ⟨by show (0 : Int) ≤ (i : Int); omega, .inr rfl⟩
/-- What a batch answers, on both sides. -/
theorem upd_core {t : InsS} {m : MS} (ht : InG t) (hA : AgT t m) {G : List (List UInt8)} (hG : G.length ≤ 256) (hF : Fits G t.N) {L : List It} (hL : ∀ it ∈ L, 0 ≤ it.2.1 ∧ (∀ x ∈ it.2.2, x.length ≤ 64) ∧ cuF t.p it.2.1.toNat it.2.2.length = 0 ∧ (it.1 = false → ∀ x ∈ it.2.2, x ∈ G)) {code ix : Int} {R' : List (List Tup)} (hB : BatR t.p t.R (btG t.N L) code ix R') {kd : Nat} {out : List UInt8} {m' : MS} (hu : UpR m kd L out m') (hc : ckL m.p L 0 = none) (hw : (wanF m.p.pool m.F L).length ≤ 256) : (code ≠ 0 ∧ 0 ≤ code ∧ code ≤ 255 ∧ m' = m ∧ ((0 ≤ ix ∧ out = rfA code.toNat kd ix.toNat) ∨ (ix = -1 ∧ out = [UInt8.ofNat code.toNat, UInt8.ofNat kd]))) ∨ (code = 0 ∧ out = [0, UInt8.ofNat kd] ∧ m'.ld = true ∧ t.p = m'.p ∧ Agm t.p (btN t.N L) (basR t.p R') m'.F) := by
  obtain ⟨b1, b2⟩ := bat_mod ht hA.v hA.a hG hF (fun it hit => ⟨itf_of ht.pg.pok (hL it hit).1 (hL it hit).2.1 (hL it hit).2.2.1, (cuF_zero ht.pg.pok (hL it hit).2.2.1).2.1, (hL it hit).2.2.2⟩) hB
  rcases hu with ⟨c, i, h1, -⟩ | ⟨-, h1⟩
  · rw [hc] at h1; cases h1
  rcases h1 with ⟨h1, -⟩ | ⟨-, h1⟩
  · omega
  rcases h1 with ⟨h1, rfl, rfl⟩ | ⟨h1, F1, T1, hQ, h2⟩
  · obtain ⟨e1, e2⟩ := b1 h1
    obtain ⟨i1, i2⟩ := aftF_ix L _ _ h1
    left
    rw [← e1] at h1 i2 ⊢
    rw [← e2] at i1 ⊢
    exact ⟨h1, by omega, by omega, rfl, .inl ⟨i1, rfl⟩⟩
  · have hQ' : PfTo t.p (constF t.p.pool (aftF m.F 0 L).2.2) 0 (aftF m.F 0 L).2.2 [] F1 T1 := by rw [hA.p]; exact hQ
    obtain ⟨b3, b4⟩ := b2 h1 F1 T1 hQ'
    rcases h2 with ⟨e, rfl, rfl⟩ | ⟨e, rfl, rfl⟩
    · obtain ⟨rfl, rfl⟩ := b3 e
      exact .inl ⟨by decide, by decide, by decide, rfl, .inr ⟨rfl, rfl⟩⟩
    · obtain ⟨rfl, h3⟩ := b4 e
      exact .inr ⟨rfl, rfl, rfl, hA.p, h3⟩
theorem zencZ (c kd ix : Int) (hk : kd = 2 ∨ kd = 3 ∨ kd = 4) : encR' (prZ c kd ix) = if c ≠ 0 ∧ kd = 4 ∧ 0 ≤ ix then [bI c, bI kd, bI ix] else [bI c, bI kd] := by
  show [bI c, bI kd] ++ encBd (prZ c kd ix) = _
  unfold encBd prZ
  dsimp only
  by_cases h : c ≠ 0
  · rw [if_pos h]
    by_cases h2 : kd = 4 ∧ 0 ≤ ix
    · rw [if_pos h2, if_pos ⟨h, h2⟩]; rfl
    · rw [if_neg h2, if_neg (fun e => h2 e.2)]; rfl
  · rw [if_neg h, if_neg (by omega), if_neg (by omega), if_neg (by omega), if_neg (by omega), if_neg (fun e => h e.1)]; rfl
theorem mr_code {t t1 : InsS} {m : MS} (ht : InG t) (hA : AgT t m) {L : List It} {mc co : Int} (hF : FstO t.p) (hm : MrR t L mc t1 co) : (256 < (wanF m.p.pool m.F L).length → mc = 16 ∧ t1 = t) ∧ ((wanF m.p.pool m.F L).length ≤ 256 → mc = 0) := by
  have hd := dem_wan ht hA.a L
  rw [hA.p] at hd
  obtain ⟨m1, -⟩ := mr_room ht hF hm
  rcases hm with ⟨h1, rfl, rfl, -⟩ | ⟨h1, -, rfl, rfl, -⟩ | ⟨h1, h2, cc, s1, h3, h4⟩
  · exact ⟨fun _ => ⟨rfl, rfl⟩, fun e => by omega⟩
  · exact ⟨fun e => by omega, fun _ => rfl⟩
  · refine ⟨fun e => by omega, fun _ => ?_⟩
    rcases h4 with ⟨-, rfl, -⟩ | ⟨-, rfl, -⟩
    · exact absurd m1 (by decide)
    · rfl
theorem cuF_255 (p : PP) (pr n : Nat) : 0 ≤ cuF p pr n ∧ cuF p pr n ≤ 255 := by
  unfold cuF
  split
  · exact ⟨by decide, by decide⟩
  · split
    · exact ⟨by decide, by decide⟩
    · split <;> exact ⟨by decide, by decide⟩
/-- An insertion on both sides. -/
theorem in_mod {s s1 : Sv} {t : InsS} {m : MS} (hs : s.inst = some t) (ht : InG t) (hF : FstO t.p) (hA : AgT t m) {pr : Nat} {args : List (List UInt8)} (h64 : ∀ x ∈ args, x.length ≤ 64) {rep : Reply} (hi : inR s t pr args rep s1) {out : List UInt8} {m' : MS} (hu : UpR m 2 [(false, (pr : Int), args)] out m') : encR' (plR rep) = out ∧ AgS s1 m' := by
  have hpt : ((pr : Int)).toNat = pr := Int.toNat_natCast _
  have hck : ckL m.p [(false, (pr : Int), args)] 0 = if cuF t.p pr args.length ≠ 0 then some (cuF t.p pr args.length, 0) else none := by
    show (if cuF m.p ((pr : Int)).toNat args.length ≠ 0 then some (cuF m.p ((pr : Int)).toNat args.length, 0) else none) = _
    rw [hpt, hA.p]
  rcases hi with ⟨h1, rfl, rfl⟩ | ⟨h1, mc, t1, co, hm, hi⟩
  · rw [if_pos h1] at hck
    rcases hu with ⟨c, i, h2, rfl, rfl⟩ | ⟨h2, -⟩
    · rw [hck] at h2
      obtain ⟨rfl, rfl⟩ := Prod.mk.inj (Option.some.inj h2)
      refine ⟨?_, .inr ⟨t, hs, hA⟩⟩
      rw [plR_Z, zencZ _ _ _ (.inl rfl), if_neg (by omega)]
      rfl
    · rw [hck] at h2; cases h2
  rw [if_neg (fun h => h h1)] at hck
  have hst := mr_sim ht hF hm
  obtain ⟨g1, g2⟩ := hm.ing ht
  obtain ⟨m1, m2⟩ := mr_room ht hF hm
  obtain ⟨w1, w2⟩ := mr_code ht hA hF hm
  have hA1 := hA.sim hst g1
  by_cases hw : 256 < (wanF m.p.pool m.F [(false, (pr : Int), args)]).length
  · obtain ⟨rfl, rfl⟩ := w1 hw
    rcases hi with ⟨-, rfl, rfl⟩ | ⟨h2, -⟩
    · rcases hu with ⟨c, i, h2, -⟩ | ⟨-, ⟨-, rfl, rfl⟩ | ⟨h2, -⟩⟩
      · rw [hck] at h2; cases h2
      · exact ⟨rfl, .inr ⟨t1, rfl, hA1⟩⟩
      · omega
    · exact absurd h2 (by decide)
  have hw' : (wanF m.p.pool m.F [(false, (pr : Int), args)]).length ≤ 256 := by omega
  have hmc := w2 hw'
  subst hmc
  obtain ⟨G, q1, q2, q3⟩ := m2 rfl
  rcases hi with ⟨h2, -⟩ | ⟨-, hi⟩
  · exact absurd rfl h2
  have hfi := (intF_fits q1 q2 (args := args) (fun x hx => q3 _ List.mem_cons_self rfl x hx)).1
  rcases hi with ⟨k3, -⟩ | ⟨-, code, ix, R', hB, hi⟩
  · exact absurd hfi k3
  have hex := intF_ex g1.nn g1.nl h64
  have hu9 := upd_core g1 hA1 q1 q2 (L := [(false, (pr : Int), args)]) (fun it hit => by
    rw [List.mem_singleton.1 hit]
    exact ⟨by show (0 : Int) ≤ (pr : Int); omega, h64, by show cuF t1.p ((pr : Int)).toNat args.length = 0; rw [hpt, g2]; exact h1, fun _ x hx => q3 _ List.mem_cons_self rfl x hx⟩) hB hu hck hw'
  rcases hu9 with ⟨c1, c2, c3, rfl, h3⟩ | ⟨rfl, rfl, c2, c3, c4⟩
  · rcases hi with ⟨-, rfl, rfl⟩ | ⟨k4, -⟩
    · refine ⟨?_, .inr ⟨_, rfl, hA1.sim (tab_sim g1 hex) (g1.tab hex)⟩⟩
      rw [plR_Z, zencZ _ _ _ (.inl rfl), if_neg (by omega)]
      rcases h3 with ⟨-, rfl⟩ | ⟨-, rfl⟩ <;> rfl
    · exact absurd k4 c1
  · rcases hi with ⟨k4, -⟩ | ⟨-, rfl, rfl⟩
    · exact absurd rfl k4
    · refine ⟨rfl, .inr ⟨_, rfl, ?_⟩⟩
      obtain ⟨e1, e2, e3⟩ := setsS_p [inC t1 pr args] ((t1.tab (intF t1.N args).2.2).rel R')
      have e1' : (setS ((t1.tab (intF t1.N args).2.2).rel R') (inC t1 pr args)).p = t1.p := e1
      have e2' : (setS ((t1.tab (intF t1.N args).2.2).rel R') (inC t1 pr args)).N = (intF t1.N args).2.2 := e2
      have e3' : (setS ((t1.tab (intF t1.N args).2.2).rel R') (inC t1 pr args)).R = R' := e3
      refine ⟨c2, e1'.trans c3, by rw [e1']; exact hA1.v, ?_⟩
      rw [e1', e2', e3']
      exact c4
/-- A deletion on both sides. -/
theorem rm_mod {s s1 : Sv} {t : InsS} {m : MS} (hs : s.inst = some t) (ht : InG t) (hA : AgT t m) {pr : Nat} {args : List (List UInt8)} (h64 : ∀ x ∈ args, x.length ≤ 64) {rep : Reply} (hi : rmR s t pr args rep s1) {out : List UInt8} {m' : MS} (hu : UpR m 3 [(true, (pr : Int), args)] out m') : encR' (plR rep) = out ∧ AgS s1 m' := by
  have hpt : ((pr : Int)).toNat = pr := Int.toNat_natCast _
  have hck : ckL m.p [(true, (pr : Int), args)] 0 = if cuF t.p pr args.length ≠ 0 then some (cuF t.p pr args.length, 0) else none := by
    show (if cuF m.p ((pr : Int)).toNat args.length ≠ 0 then some (cuF m.p ((pr : Int)).toNat args.length, 0) else none) = _
    rw [hpt, hA.p]
  rcases hi with ⟨h1, rfl, rfl⟩ | ⟨h1, code, ix, R', hB, hi⟩
  · rw [if_pos h1] at hck
    rcases hu with ⟨c, i, h2, rfl, rfl⟩ | ⟨h2, -⟩
    · rw [hck] at h2
      obtain ⟨rfl, rfl⟩ := Prod.mk.inj (Option.some.inj h2)
      refine ⟨?_, .inr ⟨t, hs, hA⟩⟩
      rw [plR_Z, zencZ _ _ _ (.inr (.inl rfl)), if_neg (by omega)]
      rfl
    · rw [hck] at h2; cases h2
  rw [if_neg (fun h => h h1)] at hck
  have hw' : (wanF m.p.pool m.F [(true, (pr : Int), args)]).length ≤ 256 := (hA.msi ht).con
  have hu9 := upd_core ht hA ht.nl ⟨ht.nn.1, fun x hx => hx⟩ (L := [(true, (pr : Int), args)]) (fun it hit => by
    rw [List.mem_singleton.1 hit]
    exact ⟨by show (0 : Int) ≤ (pr : Int); omega, h64, by show cuF t.p ((pr : Int)).toNat args.length = 0; rw [hpt]; exact h1, fun e => by cases e⟩) hB hu hck hw'
  rcases hu9 with ⟨c1, c2, c3, rfl, h3⟩ | ⟨rfl, rfl, c2, c3, c4⟩
  · rcases hi with ⟨-, rfl, rfl⟩ | ⟨k4, -⟩
    · refine ⟨?_, .inr ⟨t, rfl, hA⟩⟩
      rw [plR_Z, zencZ _ _ _ (.inr (.inl rfl)), if_neg (by omega)]
      rcases h3 with ⟨-, rfl⟩ | ⟨-, rfl⟩ <;> rfl
    · exact absurd k4 c1
  · rcases hi with ⟨k4, -⟩ | ⟨-, rfl, rfl⟩
    · exact absurd rfl k4
    · refine ⟨rfl, .inr ⟨_, rfl, ?_⟩⟩
      obtain ⟨e1, e2, e3⟩ := setsS_p [rmC t pr args] ⟨t.p, t.N, R', t.U, t.live⟩
      have e1' : (setS ⟨t.p, t.N, R', t.U, t.live⟩ (rmC t pr args)).p = t.p := e1
      have e2' : (setS ⟨t.p, t.N, R', t.U, t.live⟩ (rmC t pr args)).N = t.N := e2
      have e3' : (setS ⟨t.p, t.N, R', t.U, t.live⟩ (rmC t pr args)).R = R' := e3
      refine ⟨c2, e1'.trans c3, by rw [e1']; exact hA.v, ?_⟩
      rw [e1', e2', e3']
      exact c4
/-- A batch on both sides. -/
theorem btr_mod {s s1 : Sv} {t : InsS} {m : MS} (hs : s.inst = some t) (ht : InG t) (hF : FstO t.p) (hA : AgT t m) {L : List It} (hL : ∀ it ∈ L, 0 ≤ it.2.1 ∧ ∀ x ∈ it.2.2, x.length ≤ 64) {rep : Reply} (hi : btR s t L rep s1) {out : List UInt8} {m' : MS} (hu : UpR m 4 L out m') : encR' (plR rep) = out ∧ AgS s1 m' := by
  rcases hi with ⟨c, i, h1, rfl, rfl⟩ | ⟨h1, mc, t1, co, hm, hi⟩
  · rw [hA.p] at h1
    rcases hu with ⟨c', i', h2, rfl, rfl⟩ | ⟨h2, -⟩
    · rw [h1] at h2
      obtain ⟨rfl, rfl⟩ := Prod.mk.inj (Option.some.inj h2)
      refine ⟨?_, .inr ⟨t, hs, hA⟩⟩
      have hc := ckL_own h1
      rw [plR_Z, zencZ _ _ _ (.inr (.inr rfl)), if_pos ⟨by omega, rfl, by omega⟩]
      unfold rfA bI
      rw [if_pos rfl, Int.toNat_natCast]
      rfl
    · rw [h1] at h2; cases h2
  have h1m : ckL m.p L 0 = none := by rw [← hA.p]; exact h1
  have hst := mr_sim ht hF hm
  obtain ⟨g1, g2⟩ := hm.ing ht
  obtain ⟨m1, m2⟩ := mr_room ht hF hm
  obtain ⟨w1, w2⟩ := mr_code ht hA hF hm
  have hA1 := hA.sim hst g1
  by_cases hw : 256 < (wanF m.p.pool m.F L).length
  · obtain ⟨rfl, rfl⟩ := w1 hw
    rcases hi with ⟨-, rfl, rfl⟩ | ⟨h2, -⟩
    · rcases hu with ⟨c, i, h2, -⟩ | ⟨-, ⟨-, rfl, rfl⟩ | ⟨h2, -⟩⟩
      · rw [h1m] at h2; cases h2
      · exact ⟨rfl, .inr ⟨t1, rfl, hA1⟩⟩
      · omega
    · exact absurd h2 (by decide)
  have hw' : (wanF m.p.pool m.F L).length ≤ 256 := by omega
  have hmc := w2 hw'
  subst hmc
  obtain ⟨G, q1, q2, q3⟩ := m2 rfl
  rcases hi with ⟨h2, -⟩ | ⟨-, hi⟩
  · exact absurd rfl h2
  have hb0 := btF_fits q1 L (0, t1.N, []) rfl q2 q3
  have hbe : btF t1.N L = (0, btN t1.N L, [] ++ btG t1.N L) := btS_G L t1.N [] hb0
  rw [List.nil_append] at hbe
  have hex : NEx t1.N (btN t1.N L) := by
    have key : ∀ (L : List It) (N : List (List UInt8)), NmOk N → N.length ≤ 256 → (∀ it ∈ L, ∀ x ∈ it.2.2, x.length ≤ 64) → NEx N (btN N L) := by
      intro L
      induction L with
      | nil => intro N h1 h2 _; exact NEx.refl h1 h2
      | cons it L ih =>
        intro N h1 h2 h3
        unfold btN
        cases it.1 with
        | true => rw [if_pos rfl]; exact ih N h1 h2 (fun k hk => h3 k (List.mem_cons_of_mem _ hk))
        | false =>
          rw [if_neg (by decide)]
          have h4 := intF_ex h1 h2 (h3 it List.mem_cons_self)
          exact h4.trans (ih _ h4.nn h4.nl (fun k hk => h3 k (List.mem_cons_of_mem _ hk)))
    exact key L t1.N g1.nn g1.nl (fun it hit => (hL it hit).2)
  rw [hbe] at hi
  dsimp only at hi
  rcases hi with ⟨h3, -⟩ | ⟨-, code, ix, R', hB, hi⟩
  · exact absurd rfl h3
  have hu9 := upd_core g1 hA1 q1 q2 (L := L) (fun it hit => ⟨(hL it hit).1, (hL it hit).2, by rw [g2]; exact ckL_none h1 it hit, q3 it hit⟩) hB hu h1m hw'
  rcases hu9 with ⟨c1, c2, c3, rfl, h3⟩ | ⟨rfl, rfl, c2, c3, c4⟩
  · rcases hi with ⟨-, rfl, rfl⟩ | ⟨k4, -⟩
    · refine ⟨?_, .inr ⟨_, rfl, hA1.sim (tab_sim g1 hex) (g1.tab hex)⟩⟩
      rw [plR_Z, zencZ _ _ _ (.inr (.inr rfl))]
      rcases h3 with ⟨h4, rfl⟩ | ⟨h4, rfl⟩
      · rw [if_pos ⟨c1, rfl, h4⟩]
        unfold rfA
        rw [if_pos rfl]; rfl
      · rw [if_neg (by omega)]; rfl
    · exact absurd k4 c1
  · rcases hi with ⟨k4, -⟩ | ⟨-, rfl, rfl⟩
    · exact absurd rfl k4
    · refine ⟨rfl, .inr ⟨_, rfl, ?_⟩⟩
      obtain ⟨e1, e2, e3⟩ := setsS_p (btG t1.N L) ((t1.tab (btN t1.N L)).rel R')
      have e2' : (t1.tab (btN t1.N L)).rel R' = (t1.tab (btN t1.N L)).rel R' := rfl
      refine ⟨c2, e1.trans c3, by rw [e1]; exact hA1.v, ?_⟩
      rw [e1, e2, e3]
      exact c4
end Go.Proofs.Qxb6500787aGreat
