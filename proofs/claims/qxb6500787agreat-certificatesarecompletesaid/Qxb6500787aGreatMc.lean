import Derived.Test.Qxb6500787aGreatMb

import Derived.StillTailTactics
import Derived.Deep.QuietTactic
import Derived.BigQuiet
import Derived.Deep.RegionHeld
import Derived.Deep.CutRange
import Derived.Laws.ResultCell
import Derived.Laws.Rows
import Derived.DeepKeys
import Derived.DataBytes
import Derived.Laws.StructEq
import Derived.Laws.AppendOwn
import Derived.Laws.MakeOwn
import Derived.Lib.AppendStr
set_option linter.unusedSimpArgs false
set_option linter.unusedVariables false
namespace Go.Proofs.Qxb6500787aGreat
open Go.RowKit Go.Blk
attribute [local go_sem ↓] execOp_load execOp_store execOp_alloc
attribute [local go_sem] Tryz.ld26 Tryz.st26 Tryz.ld27 Tryz.st27 Tryz.ld28 Tryz.st28 Tryz.ld3 Tryz.st3 Tryz.ld29 Tryz.st29 Tryz.ld44 Tryz.st44 Tryz.ld4 Tryz.st4 Tryz.ld50 Tryz.st50 Tryz.ld32 Tryz.st32 Tryz.ld49 Tryz.st49 Tryz.ld68 Tryz.st68 Tryz.ld9 Tryz.st9 Tryz.ld40 Tryz.st40 Tryz.ld138 Tryz.st138 Tryz.ld139 Tryz.st139 Tryz.ld146 Tryz.st146 Tryz.ld183 Tryz.st183 Tryz.ld184 Tryz.st184 Tryz.ld192 Tryz.st192 Tryz.ld195 Tryz.st195 Tryz.ld217 Tryz.st217 Tryz.ld159 Tryz.st159 Tryz.ld142 Tryz.st142 Tryz.ld2 Tryz.st2 Tryz.ld5 Tryz.st5 Tryz.ld12 Tryz.st12 Tryz.ld21 Tryz.st21 Tryz.ld22 Tryz.st22 Tryz.ld24 Tryz.st24 Tryz.ld58 Tryz.st58 Tryz.ld97 Tryz.st97 Tryz.ld101 Tryz.st101 Tryz.ld116 Tryz.st116 Tryz.ld121 Tryz.st121 Tryz.ld135 Tryz.st135 Tryz.ld136 Tryz.st136 Tryz.ld143 Tryz.st143 Tryz.ld148 Tryz.st148 Tryz.ld154 Tryz.st154 Tryz.ld173 Tryz.st173 Tryz.ld187 Tryz.st187 Tryz.ld222 Tryz.st222 Tryz.ld241 Tryz.st241 Tryz.ld248 Tryz.st248 Tryz.ld268 Tryz.st268 Tryz.ld272 Tryz.st272 Tryz.ld153 Tryz.st153 Tryz.ld255 Tryz.st255 Tryz.ld256 Tryz.st256 Tryz.ld129 Tryz.st129 Tryz.ld152 Tryz.st152 Tryz.ld31 Tryz.st31 Tryz.ld46 Tryz.st46 Tryz.ld52 Tryz.st52 Tryz.ld54 Tryz.st54 Tryz.ld60 Tryz.st60 Tryz.ld70 Tryz.st70 Tryz.ld74 Tryz.st74 Tryz.ld93 Tryz.st93 Tryz.ld141 Tryz.st141 Tryz.ld151 Tryz.st151 Tryz.ld170 Tryz.st170 Tryz.ld186 Tryz.st186 Tryz.ld189 Tryz.st189 Tryz.ld194 Tryz.st194 Tryz.ld197 Tryz.st197 Tryz.ld219 Tryz.st219 Tryz.ld224 Tryz.st224 Tryz.ld230 Tryz.st230 Tryz.ld235 Tryz.st235 Tryz.ld243 Tryz.st243 Tryz.ld247 Tryz.st247 Tryz.ld252 Tryz.st252 Tryz.ld258 Tryz.st258 Tryz.al153 Tryz.al255 Tryz.al256 Tryz.al129 Tryz.al152 Tryz.al31 Tryz.al46 Tryz.al52 Tryz.al54 Tryz.al60 Tryz.al70 Tryz.al74 Tryz.al93 Tryz.al141 Tryz.al151 Tryz.al170 Tryz.al186 Tryz.al189 Tryz.al194 Tryz.al197 Tryz.al219 Tryz.al224 Tryz.al230 Tryz.al235 Tryz.al243 Tryz.al247 Tryz.al252 Tryz.al258
attribute [local go_sem] Request.length_enc Request.ok_enc Request.all_get Request.all_set Request.kind_get Request.kind_set Request.blob_get Request.blob_set Request.items_get Request.items_set Request.pred_get Request.pred_set Request.slots_get Request.slots_set Trace.length_enc Trace.ok_enc Trace.all_get Trace.all_set Trace.op_get Trace.op_set Trace.calls_get Trace.calls_set Item.length_enc Item.ok_enc Item.all_get Item.all_set Item.del_get Item.del_set Item.pred_get Item.pred_set Item.args_get Item.args_set Reply.length_enc Reply.ok_enc Reply.all_get Reply.all_set Reply.code_get Reply.code_set Reply.kind_get Reply.kind_set Reply.index_get Reply.index_set Reply.yes_get Reply.yes_set Reply.preds_get Reply.preds_set Reply.rules_get Reply.rules_set Reply.arity_get Reply.arity_set Reply.rows_get Reply.rows_set Reply.fact_get Reply.fact_set Reply.fact_del_get Reply.fact_del_set Reply.fact_pred_get Reply.fact_pred_set Reply.fact_args_get Reply.fact_args_set GEntry.length_enc GEntry.ok_enc GEntry.all_get GEntry.all_set GEntry.seq_get GEntry.seq_set GEntry.kind_get GEntry.kind_set GEntry.code_get GEntry.code_set GOp.length_enc GOp.ok_enc GOp.all_get GOp.all_set GOp.kind_get GOp.kind_set GOp.raw_get GOp.raw_set Reader.length_enc Reader.ok_enc Reader.all_get Reader.all_set Reader.buf_get Reader.buf_set Reader.at__get Reader.at__set Slot.length_enc Slot.ok_enc Slot.all_get Slot.all_set Slot.bound_get Slot.bound_set Slot.name_get Slot.name_set Session.length_enc Session.ok_enc Session.all_get Session.all_set Session.svc_get Session.svc_set Session.buf_get Session.buf_set Session.closed_get Session.closed_set GProgram.length_enc GProgram.ok_enc GProgram.all_get GProgram.all_set GProgram.pool_get GProgram.pool_set GProgram.preds_get GProgram.preds_set GProgram.rules_get GProgram.rules_set GProgram.strata_get GProgram.strata_set PredInfo.length_enc PredInfo.ok_enc PredInfo.all_get PredInfo.all_set PredInfo.arity_get PredInfo.arity_set PredInfo.base_get PredInfo.base_set PredInfo.stratum_get PredInfo.stratum_set Change.length_enc Change.ok_enc Change.all_get Change.all_set Change.del_get Change.del_set Change.pred_get Change.pred_set Change.t_get Change.t_set Store.length_enc Store.ok_enc Store.all_get Store.all_set Store.names_get Store.names_set Store.arity_get Store.arity_set Store.rows_get Store.rows_set Src.length_enc Src.ok_enc Src.all_get Src.all_set Src.b_get Src.b_set Src.at__get Src.at__set Atom.length_enc Atom.ok_enc Atom.all_get Atom.all_set Atom.pred_get Atom.pred_set Atom.args_get Atom.args_set GRule.length_enc GRule.ok_enc GRule.all_get GRule.all_set GRule.head_get GRule.head_set GRule.body_get GRule.body_set GRule.head_pred_get GRule.head_pred_set GRule.head_args_get GRule.head_args_set Cert.length_enc Cert.ok_enc Cert.all_get Cert.all_set Cert.names_get Cert.names_set Cert.nodes_get Cert.nodes_set Fact.length_enc Fact.ok_enc Fact.all_get Fact.all_set Fact.pred_get Fact.pred_set Fact.t_get Fact.t_set Literal.length_enc Literal.ok_enc Literal.all_get Literal.all_set Literal.neg_get Literal.neg_set Literal.atom_get Literal.atom_set Literal.atom_pred_get Literal.atom_pred_set Literal.atom_args_get Literal.atom_args_set Engine.length_enc Engine.ok_enc Engine.all_get Engine.all_set Engine.prog_get Engine.prog_set Engine.st_get Engine.st_set SrcCertm.length_enc SrcCertm.ok_enc SrcCertm.all_get SrcCertm.all_set SrcCertm.b_get SrcCertm.b_set SrcCertm.at__get SrcCertm.at__set GNode.length_enc GNode.ok_enc GNode.all_get GNode.all_set GNode.rule_get GNode.rule_set GNode.pred_get GNode.pred_set GNode.vals_get GNode.vals_set GNode.refs_get GNode.refs_set Term.length_enc Term.ok_enc Term.all_get Term.all_set Term.var_get Term.var_set Term.n_get Term.n_set Env.length_enc Env.ok_enc Env.all_get Env.all_set Env.val_get Env.val_set Env.set_get Env.set_set
attribute [local go_sem] size_put size_ext blk_put free_put blk_alloc free_alloc blk_drew free_drew blk_ext free_ext lookOr_some putOr_some segAt_some cellAt_some storeIn_some put_put put_alloc_new length_arr ok_arr_u8 ok_arr_u32 ok_arr_u64 ok_arr_i64 ok_arr_sl cellsV_agg cellsV_int cellsV_bool cellsV_string cellsV_pointer cellsV_slice cellsV_sl ok_int ok_bool ok_string ok_pointer ok_slice ok_sl toList_arr seg_arr set_arr nth_splice nth_splice0 seg_splice seg_splice0 splice_splice splice_splice0 length_splice_if
attribute [local go_sem ↓] execOp_box
attribute [local go_sem] box_run nth_arr_u8 put_arr_u8 blk_drewN free_drewN put_drewN blk_raw free_raw
attribute [local go_sem] Tryz.zl75 Tryz.zs75 Tryz.zl52 Tryz.zs52 Tryz.zl53 Tryz.zs53
theorem el78 : ElT encS 1 16 78 9 := ⟨Tryz.underlying78, info9, encS_len, encS_one, by omega, by omega⟩
theorem bslice78e (w : World) : (bsliceOp 78 0 #[]).run Tryz.prog w = .ok (.value (.slice (some ⟨w.heap.size, 0, none⟩) 0 0)) (w.alloc (.cells #[] 9)) := by kernel_rfl
theorem bslice78 (w : World) (v : ByteArray) : (bsliceOp 78 1 #[(0, .string v)]).run Tryz.prog w = .ok (.value (.slice (some ⟨w.heap.size, 0, none⟩) 1 1)) (w.alloc (.cells #[.string v] 9)) := by kernel_rfl
/-- A term under values. -/
def vlT (pool vals : List (List UInt8)) (t : Term) : List UInt8 := if t.var then vals.getD t.n.toNat [] else pool.getD t.n.toNat []
/-- An atom under values. -/
def instF (pool vals : List (List UInt8)) (a : PA) : NRow := a.args.map (vlT pool vals)
def InFit (pool vals : List (List UInt8)) (a : PA) : Prop := ∀ c, c < a.args.length → 0 ≤ (tA a c).n ∧ ((tA a c).var = true → (tA a c).n < (vals.length : Int)) ∧ ((tA a c).var = false → (tA a c).n < (pool.length : Int))
def InPost (W : World) (r : NRow) (e : Ending) (V : World) : Prop := ∃ a c, e = .returned (.slice a r.length c) ∧ OutG encS 1 9 W V a r.length c r
theorem instF_snoc (pool vals : List (List UInt8)) {a : PA} {i : Nat} (hi : i < a.args.length) : (a.args.take (i + 1)).map (vlT pool vals) = (a.args.take i).map (vlT pool vals) ++ [vlT pool vals (tA a i)] := by
  rw [List.take_add_one, tA_at hi]
  simp
attribute [local go_sem ↓] execOp_slice execOp_convert execOp_build execOp_bslice
attribute [local go_sem] bslice78e bslice78
def zIn (W : World) (v0 v2 : Value) (b4 : Nat) (XE : List Value) (N : Nat) (pool vals : List (List UInt8)) (a : PA) (f : Nat → Value) (V : World) : Prop := f 0 = v0 ∧ f 2 = v2 ∧ f 4 = .pointer (some ⟨b4, 0, none⟩) ∧ ∃ (i : Nat) (ra : Option Addr) (rn rc : Nat), i ≤ N ∧ f 8 = .int .i64 (i : Nat) ∧ f 7 = .slice ra rn rc ∧ Hid (∃ L, L = (a.args.take i).map (vlT pool vals) ∧ OutG encS 1 9 W V ra rn rc L ∧ blk V b4 = some XE ∧ ∀ k, (Value.slice ra rn rc).ownBlock = some k → k ≠ b4)
set_option maxRecDepth 100000 in
theorem zframe51i (f : Nat → Value) : frameN 51 f = #[f 0, f 1, f 2, f 3, f 4, f 5, f 6, f 7, f 8, f 9, f 10, f 11, f 12, f 13, f 14, f 15, f 16, f 17, f 18, f 19, f 20, f 21, f 22, f 23, f 24, f 25, f 26, f 27, f 28, f 29, f 30, f 31, f 32, f 33, f 34, f 35, f 36, f 37, f 38, f 39, f 40, f 41, f 42, f 43, f 44, f 45, f 46, f 47, f 48, f 49, f 50] := by kernel_rfl
theorem getD_some {N : List (List UInt8)} {y : Int} (h0 : 0 ≤ y) (h : y < (N.length : Int)) : N[y.toNat]? = some (N.getD y.toNat []) := by
  rw [List.getD_eq_getElem?_getD, List.getElem?_eq_getElem (by omega)]; rfl
set_option maxRecDepth 40000 in
set_option maxHeartbeats 2000000 in
/-- The values of the variables put into an atom. -/
theorem instance_any (W : World) (b ob : Nat) (p : PP) (hp : ProgO W b ob p) (x : Atom) (a : PA) (hxa : AtomC W x a) (h100 : a.args.length ≤ 1000) (va : Option Addr) (vn vc : Nat) (vals : List (List UInt8)) (hv : Rw encS 1 W va vn vals) (hf : InFit p.pool vals a) : Calls Tryz.prog 84 #[.pointer (some ⟨b, ob, none⟩), .agg x.enc.toArray, .slice va vn vc] W (InPost W (instF p.pool vals a)) := by
  obtain ⟨Q, hQ⟩ : ∃ Q, Q = InPost W (instF p.pool vals a) := ⟨_, rfl⟩
  rw [← hQ]
  have HQ := hid_of hQ
  have HXA := hid_of hxa
  have HV := hid_of hv
  have HFIT := hid_of hf
  have hvn : vals.length = vn := hv.1
  have HVN := hid_of hvn
  obtain ⟨Ce, pa, pn, pc, da, dn, dc, ra, rn, rc, hb, hl4, k0, k1, k2, k3, k4, -, -⟩ := hp.cells
  have HPL := hid_of k4
  have hpn : p.pool.length = pn := k4.1
  have HPN := hid_of hpn
  have l0 : ob < Ce.length := by omega
  obtain ⟨xp, xa, xn, xc⟩ := x
  have hxn : a.args.length = xn := hxa.2.1
  have HXN := hid_of hxn
  have hxb : xn ≤ 1000 := by omega
  have xl := Atom.length_enc ⟨xp, ⟨xa, xn, xc⟩⟩
  have xo := Atom.ok_enc ⟨xp, ⟨xa, xn, xc⟩⟩
  have xg : nth (Atom.enc ⟨xp, ⟨xa, xn, xc⟩⟩) 1 = some (.slice xa xn xc) := rfl
  obtain ⟨XE, hXE⟩ : ∃ XE, XE = Atom.enc ⟨xp, ⟨xa, xn, xc⟩⟩ := ⟨_, rfl⟩
  rw [← hXE] at xl xo xg ⊢
  have xl1 : 1 < XE.length := by omega
  have HB := hid_of hb
  clear hQ hp hxa hv hf hvn k1 k2 k3 k4 hpn hl4 hxn h100 hXE
  go_enter Tryz.func84, Tryz.ntmps84
  go_upto_region 3 with fail
  obtain ⟨b4, hb4⟩ : ∃ b4, b4 = W.heap.size := ⟨_, rfl⟩
  rw [← hb4]
  refine wp_world (fun V => OutG encS 1 9 W V (some ⟨b4 + 1, 0, none⟩) 0 0 ([] : List (List UInt8)) ∧ blk V b4 = some XE) ⟨?_, ?_⟩ ?_
  · have hx1 : W.Extends (W.alloc (.cells XE.toArray 144)) := extends_alloc (ext_Ext (Ext.refl _)) _
    have h9 := OutG.made (en := encS) (sz := 1) (e := 9) W (W.alloc (.cells XE.toArray 144)) hx1 #[] 0 rfl (by omega)
    rw [World.size_alloc, ← hb4] at h9
    exact h9
  · rw [blk_alloc, if_neg (by rw [World.size_alloc]; omega), blk_alloc, if_pos (by omega)]
  rintro V0 ⟨hO0, hb40⟩
  refine wp_loop_f 51 (zIn W (.pointer (some ⟨b, ob, none⟩)) (.slice va vn vc) b4 XE xn p.pool vals a) (fun f _ => xn - (intOf (f 8)).toNat) rfl ⟨rfl, rfl, rfl, 0, _, 0, 0, by omega, rfl, rfl, ⟨[], rfl, hO0, hb40, fun k hk => by simp [Value.ownBlock] at hk; omega⟩⟩ ?_
  have hbb4 : W.heap.size ≤ b4 := by omega
  clear hO0 hb40 hb4
  intro F V hrel
  obtain ⟨f0, f2, f4, i, oa, on, oc, hi, f8, f7, HI⟩ := hrel
  have H8 := hid_of f8
  rw [zframe51i, f0, f2, f4, f7, f8]
  clear f0 f2 f4 f7 f8
  obtain ⟨L, hL, hO, hbx, hown⟩ := HI.out
  have HL := hid_of hL
  have HO := hid_of hO
  have hLl : L.length = i := by rw [hL, List.length_map, List.length_take]; have := HXN.out; omega
  have HLL := hid_of hLl
  have HOW := hid_of hown
  clear HI hL hO hown hLl
  by_cases hin : i < xn
  rotate_left 1
  · have hin' : ¬ (i : Int) < (xn : Int) := by omega
    have HP : Hid (Q (.returned (.slice oa on oc)) V) := by
      show Q _ _
      rw [HQ.out]
      have e1 : L = instF p.pool vals a := by rw [HL.out, List.take_of_length_le (by have := HXN.out; omega)]; rfl
      have e2 : on = L.length := HO.out.2.2
      rw [← e1]
      unfold InPost
      rw [← e2]
      exact ⟨oa, oc, rfl, HO.out⟩
    clear HL HO
    go_wp2_with fail
    try go_ret
    exact HP.out
  have hin' : (i : Int) < (xn : Int) := by omega
  have i0 : (0 : Int) ≤ (i : Int) := by omega
  have i2 : ((i : Int)).toNat = i := by omega
  have hia : i < a.args.length := by have := HXN.out; omega
  obtain ⟨bt, CT, hxa', g1, g2, g3, g4⟩ := term_at HXA.out hia
  dsimp only at hxa'
  subst hxa'
  obtain ⟨f1, f2, f3⟩ := HFIT.out i hia
  obtain ⟨tv, etv⟩ : ∃ tv, tv = (tA a i).var := ⟨_, rfl⟩
  obtain ⟨tn, etn⟩ : ∃ tn : Nat, (tA a i).n = (tn : Int) := ⟨(tA a i).n.toNat, by omega⟩
  rw [← etv] at g3 f2 f3
  rw [etn] at g4 f2 f3
  have HG1 := hid_of g1
  have hbt : blk V bt = some CT := (HO.out.2.1.blk (blk_lt g1)).trans g1
  have c1 : i * 2 < CT.length := by omega
  have HNEW : Hid (∀ (y : List UInt8), vlT p.pool vals (tA a i) = y → ∀ ra' rc' V', OutG encS 1 9 W V' ra' (on + 1) rc' (L ++ [y]) → Gro V V' (.slice oa on oc) (.slice ra' (on + 1) rc') → ∃ L', L' = (a.args.take (i + 1)).map (vlT p.pool vals) ∧ OutG encS 1 9 W V' ra' (on + 1) rc' L' ∧ blk V' b4 = some XE ∧ ∀ k, (Value.slice ra' (on + 1) rc').ownBlock = some k → k ≠ b4) := fun y hy ra' rc' V' h1 h2 => by
    refine ⟨L ++ [y], by rw [instF_snoc _ _ hia, ← HL.out, hy], h1, ?_, fun k hk => ?_⟩
    · exact (blk_of_heap (h2.block b4 (blk_lt hbx) (fun e => HOW.out b4 e rfl))).trans hbx
    · rcases h2.own k hk with h9 | h9
      · exact HOW.out k h9
      · have := blk_lt hbx; omega
  have hl9 : L.length ≤ 1000000000 := by have := HLL.out; omega
  have ETV := hid_of etv
  have ETN := hid_of etn
  clear g1 hia etv etn
  cases tv with
  | true =>
    have hlt := f2 rfl
    have hy : vlT p.pool vals (tA a i) = vals.getD tn [] := by unfold vlT; rw [← ETV.out, ETN.out]; rfl
    have hvx : vals[tn]? = some (vals.getD tn []) := by have h9 := getD_some (N := vals) (y := (tn : Int)) (by omega) hlt; rw [Int.toNat_natCast] at h9; exact h9
    obtain ⟨y, ey⟩ : ∃ y, y = vals.getD tn [] := ⟨_, rfl⟩
    rw [← ey] at hy hvx
    obtain ⟨bv, CV, rfl, m1, m2, m3⟩ := str_at HV.out hvx
    have hbv : blk V bv = some CV := (HO.out.2.1.blk (blk_lt m1)).trans m1
    obtain ⟨ra', rc', V2, hrun, hO2, hG2⟩ := HO.out.app el78 y hl9 #[.string ⟨y.toArray⟩] rfl 1
    have HJ := hid_of (HNEW.out y hy ra' rc' V2 hO2 hG2)
    have n1 : (tn : Int) < (vn : Int) := by have := HVN.out; omega
    have n2 : (0 : Int) ≤ (tn : Int) := by omega
    have n3 : ((tn : Int)).toNat = tn := by omega
    clear hy hvx ey m1 hO2 hG2 HNEW f2 f3 hlt
    go_wp2_with (at_builtin; refine wpList_append_run rfl _ _ 78 rfl _ _ _ _ rfl rfl hrun ?_)
    refine ⟨rfl, rfl, ⟨rfl, rfl, rfl, i + 1, ra', on + 1, rc', by omega, ?_, rfl, HJ⟩, ?_⟩
    · show Value.int .i64 _ = _
      go_num
    · show xn - (intOf (Value.int .i64 _)).toNat < xn - (intOf (F 8)).toNat
      rw [H8.out]
      simp [intOf]; omega
  | false =>
    have hlt := f3 rfl
    have hy : vlT p.pool vals (tA a i) = p.pool.getD tn [] := by unfold vlT; rw [← ETV.out, ETN.out]; rfl
    have hvx : p.pool[tn]? = some (p.pool.getD tn []) := by have h9 := getD_some (N := p.pool) (y := (tn : Int)) (by omega) hlt; rw [Int.toNat_natCast] at h9; exact h9
    obtain ⟨y, ey⟩ : ∃ y, y = p.pool.getD tn [] := ⟨_, rfl⟩
    rw [← ey] at hy hvx
    obtain ⟨bv, CV, rfl, m1, m2, m3⟩ := str_at HPL.out hvx
    have hbv : blk V bv = some CV := (HO.out.2.1.blk (blk_lt m1)).trans m1
    have hbp : blk V b = some Ce := (HO.out.2.1.blk (blk_lt HB.out)).trans HB.out
    have hOd : OutG encS 1 9 W V.drew oa on oc L := HO.out.ext (extends_drew (ext_Ext (Ext.refl _)))
    obtain ⟨ra', rc', V2, hrun, hO2, hG2⟩ := hOd.app el78 y hl9 #[.string ⟨y.toArray⟩] rfl 1
    have hG3 : Gro V V2 (.slice oa on oc) (.slice ra' (on + 1) rc') := ⟨hG2.size, hG2.block, hG2.own⟩
    have HJ := hid_of (HNEW.out y hy ra' rc' V2 hO2 hG3)
    have n1 : (tn : Int) < (pn : Int) := by have := HPN.out; omega
    have n2 : (0 : Int) ≤ (tn : Int) := by omega
    have n3 : ((tn : Int)).toNat = tn := by omega
    have hSa : ∀ A, blk (V.drew.alloc (.cells A 9)) b = some Ce ∧ blk (V.drew.alloc (.cells A 9)) b4 = some XE ∧ blk (V.drew.alloc (.cells A 9)) bt = some CT ∧ blk (V.drew.alloc (.cells A 9)) bv = some CV := fun A => by
      have hx9 : V.drew.Extends (V.drew.alloc (.cells A 9)) := extends_alloc (ext_Ext (Ext.refl _)) _
      exact ⟨(hx9.blk (blk_lt hbp)).trans hbp, (hx9.blk (blk_lt hbx)).trans hbx, (hx9.blk (blk_lt hbt)).trans hbt, (hx9.blk (blk_lt hbv)).trans hbv⟩
    have hSe : blk V2 b = some Ce ∧ blk V2 b4 = some XE ∧ blk V2 bt = some CT ∧ blk V2 bv = some CV := ⟨(hO2.2.1.blk (blk_lt HB.out)).trans HB.out, HJ.out.choose_spec.2.2.1, (hO2.2.1.blk (blk_lt HG1.out)).trans HG1.out, (hO2.2.1.blk (blk_lt m1)).trans m1⟩
    clear hy hvx ey hO2 hG2 hG3 hOd HNEW f2 f3 hlt m1
    go_upto_region 7 with fail
    repeat go_step
    refine wp_region_held_drew (S := fun W' => blk W' b = some Ce ∧ blk W' b4 = some XE ∧ blk W' bt = some CT ∧ blk W' bv = some CV) (by kernel_rfl) ⟨hbp, hbx, hbt, hbv⟩ (fun hHeld => ?_)
    refine wpAnyH_take (i := 0) (oi := ⟨_, _, _, _, _, _⟩) (v := ?_) rfl (by kernel_rfl) (by kernel_rfl) (by kernel_rfl) (fun _ _ _ h => h) (Or.inl ⟨by rfl, ?_⟩) (by assumption) ?_
    rotate_left 1
    · intro W' hSw
      obtain ⟨hS1, hS2, hS3, hS4⟩ := hSw
      go_simp
      try with_reducible rfl
    try simp only [Act.put, List.setIfInBounds_toArray, List.set_cons_zero, List.set_cons_succ]
    refine wpAnyH_take (i := 1) (oi := ⟨_, _, _, _, _, _⟩) (v := ?_) rfl (by kernel_rfl) (by kernel_rfl) (by kernel_rfl) (fun _ _ _ h => h) (Or.inl ⟨by rfl, ?_⟩) (by assumption) ?_
    rotate_left 1
    · intro W' hSw
      obtain ⟨hS1, hS2, hS3, hS4⟩ := hSw
      go_simp
      try with_reducible rfl
    try simp only [Act.put, List.setIfInBounds_toArray, List.set_cons_zero, List.set_cons_succ]
    refine wpAnyH_take (i := 2) (oi := ⟨_, _, _, _, _, _⟩) (v := ?_) rfl (by kernel_rfl) (by kernel_rfl) (by kernel_rfl) (fun _ _ _ h => h) (Or.inl ⟨by rfl, ?_⟩) (by assumption) ?_
    rotate_left 1
    · intro W' hSw
      obtain ⟨hS1, hS2, hS3, hS4⟩ := hSw
      go_simp
      try with_reducible rfl
    try simp only [Act.put, List.setIfInBounds_toArray, List.set_cons_zero, List.set_cons_succ]
    refine wpAnyH_take (i := 3) (oi := ⟨_, _, _, _, _, _⟩) (v := ?_) rfl (by kernel_rfl) (by kernel_rfl) (by kernel_rfl) (fun _ _ _ h => h) (Or.inl ⟨by rfl, ?_⟩) (by assumption) ?_
    rotate_left 1
    · intro W' hSw
      obtain ⟨hS1, hS2, hS3, hS4⟩ := hSw
      go_simp
      try with_reducible rfl
    try simp only [Act.put, List.setIfInBounds_toArray, List.set_cons_zero, List.set_cons_succ]
    refine wpAnyH_take (i := 4) (oi := ⟨_, _, _, _, _, _⟩) (v := ?_) rfl (by kernel_rfl) (by kernel_rfl) (by kernel_rfl) (fun _ _ _ h => h) (Or.inl ⟨by rfl, ?_⟩) (by assumption) ?_
    rotate_left 1
    · intro W' hSw
      obtain ⟨hS1, hS2, hS3, hS4⟩ := hSw
      go_simp
      try with_reducible rfl
    try simp only [Act.put, List.setIfInBounds_toArray, List.set_cons_zero, List.set_cons_succ]
    refine wpAnyH_take (i := 5) (oi := ⟨_, _, _, _, _, _⟩) (v := ?_) rfl (by kernel_rfl) (by kernel_rfl) (by kernel_rfl) (fun _ _ _ h => h) (Or.inl ⟨by rfl, ?_⟩) (by assumption) ?_
    rotate_left 1
    · intro W' hSw
      obtain ⟨hS1, hS2, hS3, hS4⟩ := hSw
      go_simp
      try with_reducible rfl
    try simp only [Act.put, List.setIfInBounds_toArray, List.set_cons_zero, List.set_cons_succ]
    refine wpAnyH_take (i := 6) (oi := ⟨_, _, _, _, _, _⟩) (v := ?_) rfl (by kernel_rfl) (by kernel_rfl) (by kernel_rfl) (fun _ _ _ h => h) (Or.inl ⟨by rfl, ?_⟩) (by assumption) ?_
    rotate_left 1
    · intro W' hSw
      obtain ⟨hS1, hS2, hS3, hS4⟩ := hSw
      go_simp
      try with_reducible rfl
    try simp only [Act.put, List.setIfInBounds_toArray, List.set_cons_zero, List.set_cons_succ]
    refine wpAnyH_take (i := 7) (oi := ⟨_, _, _, _, _, _⟩) (v := ?_) rfl (by kernel_rfl) (by kernel_rfl) (by kernel_rfl) (fun _ _ _ h => h) (Or.inl ⟨by rfl, ?_⟩) (by assumption) ?_
    rotate_left 1
    · intro W' hSw
      obtain ⟨hS1, hS2, hS3, hS4⟩ := hSw
      go_simp
      try with_reducible rfl
    try simp only [Act.put, List.setIfInBounds_toArray, List.set_cons_zero, List.set_cons_succ]
    refine wpAnyH_take (i := 8) (oi := ⟨_, _, _, _, _, _⟩) (v := ?_) rfl (by kernel_rfl) (by kernel_rfl) (by kernel_rfl) (fun _ _ _ h => h) (Or.inl ⟨by rfl, ?_⟩) (by assumption) ?_
    rotate_left 1
    · intro W' hSw
      obtain ⟨hS1, hS2, hS3, hS4⟩ := hSw
      go_simp
      try with_reducible rfl
    try simp only [Act.put, List.setIfInBounds_toArray, List.set_cons_zero, List.set_cons_succ]
    refine wpAnyH_take (i := 9) (oi := ⟨_, _, _, _, _, _⟩) (v := ?_) rfl (by kernel_rfl) (by kernel_rfl) (by kernel_rfl) (fun _ _ _ h => h) (Or.inl ⟨by rfl, ?_⟩) (by assumption) ?_
    rotate_left 1
    · intro W' hSw
      obtain ⟨hS1, hS2, hS3, hS4⟩ := hSw
      go_simp
      try with_reducible rfl
    try simp only [Act.put, List.setIfInBounds_toArray, List.set_cons_zero, List.set_cons_succ]
    refine wpAnyH_take (i := 10) (oi := ⟨_, _, _, _, _, _⟩) (v := ?_) rfl (by kernel_rfl) (by kernel_rfl) (by kernel_rfl) (fun _ _ _ h => h) (Or.inl ⟨by rfl, ?_⟩) (by assumption) ?_
    rotate_left 1
    · intro W' hSw
      obtain ⟨hS1, hS2, hS3, hS4⟩ := hSw
      go_simp
      try with_reducible rfl
    try simp only [Act.put, List.setIfInBounds_toArray, List.set_cons_zero, List.set_cons_succ]
    refine wpAnyH_take (i := 11) (oi := ⟨_, _, _, _, _, _⟩) (v := ?_) rfl (by kernel_rfl) (by kernel_rfl) (by kernel_rfl) (fun _ _ _ h => h) (Or.inl ⟨by rfl, ?_⟩) (by assumption) ?_
    rotate_left 1
    · intro W' hSw
      obtain ⟨hS1, hS2, hS3, hS4⟩ := hSw
      go_simp
      try with_reducible rfl
    try simp only [Act.put, List.setIfInBounds_toArray, List.set_cons_zero, List.set_cons_succ]
    refine wpAnyH_take (i := 12) (oi := ⟨_, _, _, _, _, _⟩) (v := ?_) rfl (by kernel_rfl) (by kernel_rfl) (by kernel_rfl) (fun _ _ _ h => h) (Or.inl ⟨by rfl, ?_⟩) (by assumption) ?_
    rotate_left 1
    · intro W' hSw
      obtain ⟨hS1, hS2, hS3, hS4⟩ := hSw
      go_simp
      try with_reducible rfl
    try simp only [Act.put, List.setIfInBounds_toArray, List.set_cons_zero, List.set_cons_succ]
    refine wpAnyH_ready (rs := [13]) (by kernel_rfl) (by simp) ?_
    refine AllReadyH.cons (o := ⟨_, _, _, _, _, _⟩) rfl (fun K' hK => ?_) AllReadyH.nil
    go_simp
    refine hK.out _ _ (hSa _) (fun hHeld => ?_)
    clear hK K'
    try simp only [Act.put, List.setIfInBounds_toArray, List.set_cons_zero, List.set_cons_succ]
    refine wpAnyH_ready (rs := [14]) (by kernel_rfl) (by simp) ?_
    refine AllReadyH.cons (o := ⟨_, _, _, _, _, _⟩) rfl (fun K' hK => ?_) AllReadyH.nil
    refine wp_append_run _ _ 78 rfl _ _ _ _ rfl rfl hrun ?_
    refine hK.out _ _ hSe (fun hHeld => ?_)
    clear hK K'
    try simp only [Act.put, List.setIfInBounds_toArray, List.set_cons_zero, List.set_cons_succ]
    refine wpAnyH_take (i := 15) (oi := ⟨_, _, _, _, _, _⟩) (v := ?_) rfl (by kernel_rfl) (by kernel_rfl) (by kernel_rfl) (fun _ _ _ h => h) (Or.inl ⟨by rfl, ?_⟩) (by assumption) ?_
    rotate_left 1
    · intro W' hSw
      obtain ⟨hS1, hS2, hS3, hS4⟩ := hSw
      go_simp
      try with_reducible rfl
    try simp only [Act.put, List.setIfInBounds_toArray, List.set_cons_zero, List.set_cons_succ]
    refine wpAnyH_done (by kernel_rfl) ?_ _
    clear hHeld hSa hSe
    go_wp2_with fail
    refine ⟨rfl, rfl, ⟨rfl, rfl, rfl, i + 1, ra', on + 1, rc', by omega, ?_, rfl, HJ⟩, ?_⟩
    · show Value.int .i64 _ = _
      go_num
    · show xn - (intOf (Value.int .i64 _)).toNat < xn - (intOf (F 8)).toNat
      rw [H8.out]
      simp [intOf]; omega
end Go.Proofs.Qxb6500787aGreat
