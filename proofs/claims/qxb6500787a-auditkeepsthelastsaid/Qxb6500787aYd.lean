import Derived.Test.Qxb6500787aYc
import Derived.StillTailTactics
import Derived.Deep.QuietTactic
import Derived.BigQuiet
import Derived.Deep.RegionHeld
import Derived.Deep.CutRange
import Derived.Laws.ResultCell
import Derived.Laws.Rows
import Derived.DeepKeys
import Derived.DataBytes
import Derived.Laws.StructEq
import Derived.Laws.AppendOwn
import Derived.Laws.MakeOwn
import Derived.Lib.AppendStr
set_option linter.unusedSimpArgs false
set_option linter.unusedVariables false
namespace Go.Proofs.Qxb6500787a
open Go.RowKit Go.Blk
attribute [local go_sem ↓] execOp_load execOp_store execOp_alloc
attribute [local go_sem] Try.ld26 Try.st26 Try.ld27 Try.st27 Try.ld28 Try.st28 Try.ld3 Try.st3 Try.ld29 Try.st29 Try.ld44 Try.st44 Try.ld4 Try.st4 Try.ld50 Try.st50 Try.ld32 Try.st32 Try.ld49 Try.st49 Try.ld68 Try.st68 Try.ld9 Try.st9 Try.ld40 Try.st40 Try.ld138 Try.st138 Try.ld139 Try.st139 Try.ld146 Try.st146 Try.ld183 Try.st183 Try.ld184 Try.st184 Try.ld192 Try.st192 Try.ld195 Try.st195 Try.ld217 Try.st217 Try.ld159 Try.st159 Try.ld142 Try.st142 Try.ld2 Try.st2 Try.ld5 Try.st5 Try.ld12 Try.st12 Try.ld21 Try.st21 Try.ld22 Try.st22 Try.ld24 Try.st24 Try.ld58 Try.st58 Try.ld63 Try.st63 Try.ld97 Try.st97 Try.ld101 Try.st101 Try.ld116 Try.st116 Try.ld121 Try.st121 Try.ld135 Try.st135 Try.ld136 Try.st136 Try.ld143 Try.st143 Try.ld148 Try.st148 Try.ld154 Try.st154 Try.ld173 Try.st173 Try.ld187 Try.st187 Try.ld222 Try.st222 Try.ld241 Try.st241 Try.ld248 Try.st248 Try.ld268 Try.st268 Try.ld272 Try.st272 Try.ld153 Try.st153 Try.ld255 Try.st255 Try.ld256 Try.st256 Try.ld129 Try.st129 Try.ld152 Try.st152 Try.ld31 Try.st31 Try.ld46 Try.st46 Try.ld52 Try.st52 Try.ld54 Try.st54 Try.ld60 Try.st60 Try.ld70 Try.st70 Try.ld74 Try.st74 Try.ld93 Try.st93 Try.ld119 Try.st119 Try.ld141 Try.st141 Try.ld151 Try.st151 Try.ld170 Try.st170 Try.ld186 Try.st186 Try.ld189 Try.st189 Try.ld194 Try.st194 Try.ld197 Try.st197 Try.ld219 Try.st219 Try.ld224 Try.st224 Try.ld230 Try.st230 Try.ld235 Try.st235 Try.ld243 Try.st243 Try.ld247 Try.st247 Try.ld252 Try.st252 Try.ld258 Try.st258 Try.al153 Try.al255 Try.al256 Try.al129 Try.al152 Try.al31 Try.al46 Try.al52 Try.al54 Try.al60 Try.al70 Try.al74 Try.al93 Try.al119 Try.al141 Try.al151 Try.al170 Try.al186 Try.al189 Try.al194 Try.al197 Try.al219 Try.al224 Try.al230 Try.al235 Try.al243 Try.al247 Try.al252 Try.al258
attribute [local go_sem] Request.length_enc Request.ok_enc Request.all_get Request.all_set Request.kind_get Request.kind_set Request.blob_get Request.blob_set Request.items_get Request.items_set Request.pred_get Request.pred_set Request.slots_get Request.slots_set Trace.length_enc Trace.ok_enc Trace.all_get Trace.all_set Trace.op_get Trace.op_set Trace.calls_get Trace.calls_set Item.length_enc Item.ok_enc Item.all_get Item.all_set Item.del_get Item.del_set Item.pred_get Item.pred_set Item.args_get Item.args_set Reply.length_enc Reply.ok_enc Reply.all_get Reply.all_set Reply.code_get Reply.code_set Reply.kind_get Reply.kind_set Reply.index_get Reply.index_set Reply.yes_get Reply.yes_set Reply.preds_get Reply.preds_set Reply.rules_get Reply.rules_set Reply.arity_get Reply.arity_set Reply.rows_get Reply.rows_set Reply.fact_get Reply.fact_set Reply.fact_del_get Reply.fact_del_set Reply.fact_pred_get Reply.fact_pred_set Reply.fact_args_get Reply.fact_args_set GEntry.length_enc GEntry.ok_enc GEntry.all_get GEntry.all_set GEntry.seq_get GEntry.seq_set GEntry.kind_get GEntry.kind_set GEntry.code_get GEntry.code_set GOp.length_enc GOp.ok_enc GOp.all_get GOp.all_set GOp.kind_get GOp.kind_set GOp.raw_get GOp.raw_set Reader.length_enc Reader.ok_enc Reader.all_get Reader.all_set Reader.buf_get Reader.buf_set Reader.at__get Reader.at__set Slot.length_enc Slot.ok_enc Slot.all_get Slot.all_set Slot.bound_get Slot.bound_set Slot.name_get Slot.name_set Session.length_enc Session.ok_enc Session.all_get Session.all_set Session.svc_get Session.svc_set Session.buf_get Session.buf_set Session.closed_get Session.closed_set GProgram.length_enc GProgram.ok_enc GProgram.all_get GProgram.all_set GProgram.pool_get GProgram.pool_set GProgram.preds_get GProgram.preds_set GProgram.rules_get GProgram.rules_set GProgram.strata_get GProgram.strata_set PredInfo.length_enc PredInfo.ok_enc PredInfo.all_get PredInfo.all_set PredInfo.arity_get PredInfo.arity_set PredInfo.base_get PredInfo.base_set PredInfo.stratum_get PredInfo.stratum_set Change.length_enc Change.ok_enc Change.all_get Change.all_set Change.del_get Change.del_set Change.pred_get Change.pred_set Change.t_get Change.t_set Store.length_enc Store.ok_enc Store.all_get Store.all_set Store.names_get Store.names_set Store.arity_get Store.arity_set Store.rows_get Store.rows_set Src.length_enc Src.ok_enc Src.all_get Src.all_set Src.b_get Src.b_set Src.at__get Src.at__set Atom.length_enc Atom.ok_enc Atom.all_get Atom.all_set Atom.pred_get Atom.pred_set Atom.args_get Atom.args_set GRule.length_enc GRule.ok_enc GRule.all_get GRule.all_set GRule.head_get GRule.head_set GRule.body_get GRule.body_set GRule.head_pred_get GRule.head_pred_set GRule.head_args_get GRule.head_args_set Cert.length_enc Cert.ok_enc Cert.all_get Cert.all_set Cert.names_get Cert.names_set Cert.nodes_get Cert.nodes_set Fact.length_enc Fact.ok_enc Fact.all_get Fact.all_set Fact.pred_get Fact.pred_set Fact.t_get Fact.t_set Literal.length_enc Literal.ok_enc Literal.all_get Literal.all_set Literal.neg_get Literal.neg_set Literal.atom_get Literal.atom_set Literal.atom_pred_get Literal.atom_pred_set Literal.atom_args_get Literal.atom_args_set Engine.length_enc Engine.ok_enc Engine.all_get Engine.all_set Engine.prog_get Engine.prog_set Engine.st_get Engine.st_set SrcCertm.length_enc SrcCertm.ok_enc SrcCertm.all_get SrcCertm.all_set SrcCertm.b_get SrcCertm.b_set SrcCertm.at__get SrcCertm.at__set GNode.length_enc GNode.ok_enc GNode.all_get GNode.all_set GNode.rule_get GNode.rule_set GNode.pred_get GNode.pred_set GNode.vals_get GNode.vals_set GNode.refs_get GNode.refs_set Term.length_enc Term.ok_enc Term.all_get Term.all_set Term.var_get Term.var_set Term.n_get Term.n_set Env.length_enc Env.ok_enc Env.all_get Env.all_set Env.val_get Env.val_set Env.set_get Env.set_set
attribute [local go_sem] size_put size_ext blk_put free_put blk_alloc free_alloc blk_drew free_drew blk_ext free_ext lookOr_some putOr_some segAt_some cellAt_some storeIn_some put_put put_alloc_new length_arr ok_arr_u8 ok_arr_u32 ok_arr_u64 ok_arr_i64 ok_arr_sl cellsV_agg cellsV_int cellsV_bool cellsV_string cellsV_pointer cellsV_slice cellsV_sl ok_int ok_bool ok_string ok_pointer ok_slice ok_sl toList_arr seg_arr set_arr nth_splice nth_splice0 seg_splice seg_splice0 splice_splice splice_splice0 length_splice_if
attribute [local go_sem ↓] execOp_box
attribute [local go_sem] box_run nth_arr_u8 put_arr_u8 blk_drewN free_drewN put_drewN blk_raw free_raw
theorem el58 : ElT GEntry.enc 3 24 58 60 := by
  have info : ∃ i z, Try.prog.info? 60 = some i ∧ i.zero = some z ∧ i.size = 3 ∧ i.bytes = 24 ∧ z.cells.size = 3 := by
    have hq : (Try.prog.info? 60).map (fun i => (i.zero, i.size, i.bytes)) = some (some (.agg (GEntry.zero.enc).toArray), 3, 24) := by kernel_rfl
    cases hx : Try.prog.info? 60 with
    | none => rw [hx] at hq; simp at hq
    | some i =>
      rw [hx] at hq
      simp only [Option.map_some, Option.some.injEq, Prod.mk.injEq] at hq
      exact ⟨i, _, rfl, hq.1, hq.2.1, hq.2.2, by rfl⟩
  exact ⟨Try.underlying58, info, GEntry.length_enc, GEntry.one_enc, by omega, by omega⟩
theorem bslice58_lit (w : World) (a b c : Int) : (bsliceOp 58 1 #[(0, .agg #[.int .i64 a, .int .i64 b, .int .i64 c])]).run Try.prog w = .ok (.value (.slice (some ⟨w.heap.size, 0, none⟩) 1 1)) (w.alloc (.cells #[.int .i64 a, .int .i64 b, .int .i64 c] 60)) := by kernel_rfl
theorem bslice58 (w : World) (x : GEntry) : (bsliceOp 58 1 #[(0, .agg (GEntry.enc x).toArray)]).run Try.prog w = .ok (.value (.slice (some ⟨w.heap.size, 0, none⟩) 1 1)) (w.alloc (.cells (GEntry.enc x).toArray 60)) := bslice58_lit w x.seq x.kind x.code
theorem make58 (w : World) (n : Nat) (hn : n ≤ 1000) : (makeOp 58 (.int .i64 0) (.int .i64 (n : Int))).run Try.prog w = .ok (.value (.slice (some ⟨w.heap.size, 0, none⟩) 0 n)) (w.alloc (.cells (madeCells GEntry.zero.enc.toArray (n * 3)) 60)) := by
  obtain ⟨i, hi, hz, hsz, hby⟩ : ∃ i, Try.prog.info? 60 = some i ∧ i.zero = some (.agg GEntry.zero.enc.toArray) ∧ i.size = 3 ∧ i.bytes = 24 := by
    have hq : (Try.prog.info? 60).map (fun i => (i.zero, i.size, i.bytes)) = some (some (.agg GEntry.zero.enc.toArray), 3, 24) := by kernel_rfl
    cases hx : Try.prog.info? 60 with
    | none => rw [hx] at hq; simp at hq
    | some i =>
      rw [hx] at hq
      simp only [Option.map_some, Option.some.injEq, Prod.mk.injEq] at hq
      exact ⟨i, rfl, hq.1, hq.2.1, hq.2.2⟩
  have hr := run_make (P := Try.prog) w 58 60 i _ Try.underlying58 hi hz .i64 .i64 0 (n : Int) (by omega) (by omega) (by rw [hby]; omega) (by omega)
  unfold makeOp
  rw [Sem.run_bind, hr, hsz, Int.toNat_natCast]
  rfl
/-- The entry that lies at place j of the ring. -/
def ring (r : Nat → Int) (j : Nat) : GEntry := ⟨r (4 + j * 3), r (4 + j * 3 + 1), r (4 + j * 3 + 2)⟩
/-- The entries from lo on, n of them. -/
def lstF (r : Nat → Int) (lo n : Nat) : List GEntry := (List.range n).map fun i => ring r ((lo + i) % 64)
theorem lstF_len (r : Nat → Int) (lo n : Nat) : (lstF r lo n).length = n := by simp [lstF]
theorem lstF_snoc (r : Nat → Int) (lo n : Nat) : lstF r lo (n + 1) = lstF r lo n ++ [ring r ((lo + n) % 64)] := by
  unfold lstF
  rw [List.range_succ, List.map_append]
  rfl
theorem ring_seg {CS : List Value} (hl : CS.length = 253) {r : Nat → Int} (hr : ∀ k, 4 ≤ k → k < 253 → nth CS k = some (.int .i64 (r k))) {j : Nat} (hj : j < 64) : seg CS (4 + j * 3) 3 = GEntry.enc (ring r j) := by
  have h0 := hr (4 + j * 3) (by omega) (by omega)
  have h1 := hr (4 + j * 3 + 1) (by omega) (by omega)
  have h2 := hr (4 + j * 3 + 2) (by omega) (by omega)
  unfold nth at h0 h1 h2
  apply List.ext_getElem?
  intro i
  unfold seg
  rw [List.getElem?_take]
  by_cases hi : i < 3
  · rw [if_pos hi, List.getElem?_drop]
    have : i = 0 ∨ i = 1 ∨ i = 2 := by omega
    rcases this with rfl | rfl | rfl
    · rw [Nat.add_zero, h0]; rfl
    · rw [h1]; rfl
    · rw [h2]; rfl
  · rw [if_neg hi]
    symm
    exact List.getElem?_eq_none (by rw [GEntry.length_enc]; omega)
def ltI (W : World) (bs : Nat) (r : Nat → Int) (lo sn : Nat) (f : Nat → Value) (V : World) : Prop := f 0 = .pointer (some ⟨bs, 4, none⟩) ∧ ∃ (k : Nat) (a : Option Addr) (c : Nat), lo + k ≤ sn ∧ f 5 = .int .i64 ((lo + k : Nat) : Int) ∧ f 4 = .slice a k c ∧ Hid (OutG GEntry.enc 3 60 W V a k c (lstF r lo k))
attribute [local go_sem ↓] execOp_bslice execOp_make
attribute [local go_sem] bslice58
set_option maxRecDepth 100000 in
theorem frame39l (f : Nat → Value) : frameN 39 f = #[f 0, f 1, f 2, f 3, f 4, f 5, f 6, f 7, f 8, f 9, f 10, f 11, f 12, f 13, f 14, f 15, f 16, f 17, f 18, f 19, f 20, f 21, f 22, f 23, f 24, f 25, f 26, f 27, f 28, f 29, f 30, f 31, f 32, f 33, f 34, f 35, f 36, f 37, f 38] := by kernel_rfl
set_option maxRecDepth 20000 in
set_option maxHeartbeats 2000000 in
theorem trailList_any {W : World} {bs : Nat} {CS : List Value} (hb : blk W bs = some CS) (hl : CS.length = 253) {r : Nat → Int} (hr : ∀ k, 4 ≤ k → k < 253 → nth CS k = some (.int .i64 (r k))) {sn : Nat} (hs : r 196 = (sn : Int)) (hsn : sn ≤ 1000000000) : Calls Try.prog 58 #[.pointer (some ⟨bs, 4, none⟩)] W fun e V => ∃ a c, e = .returned (.slice a (min sn 64) c) ∧ OutG GEntry.enc 3 60 W V a (min sn 64) c (lstF r (sn - min sn 64) (min sn 64)) := by
  obtain ⟨Q, hQ⟩ : ∃ Q : Ending → World → Prop, Q = fun e V => ∃ a c, e = .returned (.slice a (min sn 64) c) ∧ OutG GEntry.enc 3 60 W V a (min sn 64) c (lstF r (sn - min sn 64) (min sn 64)) := ⟨_, rfl⟩
  rw [← hQ]
  have HQ := hid_of hQ
  obtain ⟨n, hn⟩ : ∃ n, n = min sn 64 := ⟨_, rfl⟩
  obtain ⟨lo, hlo⟩ : ∃ lo, lo = sn - n := ⟨_, rfl⟩
  rw [← hn, ← hlo] at HQ
  have hn64 : n ≤ 64 := by omega
  have hsum : lo + n = sn := by omega
  have c196 : nth CS 196 = some (.int .i64 (sn : Int)) := by rw [← hs]; exact hr 196 (by omega) (by omega)
  have l196 : 196 < CS.length := by omega
  have HRG : Hid (∀ j, j < 64 → seg CS (4 + j * 3) 3 = GEntry.enc (ring r j)) := fun j hj => ring_seg hl hr hj
  have HB := hid_of hb
  have HL := hid_of hl
  have HMK : Hid (∀ w, (makeOp 58 (.int .i64 0) (.int .i64 (n : Int))).run Try.prog w = .ok (.value (.slice (some ⟨w.heap.size, 0, none⟩) 0 n)) (w.alloc (.cells (madeCells GEntry.zero.enc.toArray (n * 3)) 60))) := fun w => make58 w n (by omega)
  have hmk := HMK.out
  have e5 : IntKind.i64.wrap ((sn : Int) - (n : Int)) = (lo : Int) := by rw [IntKind.wrap_i64]; omega
  have e5' : (sn : Int) - (n : Int) = (lo : Int) := by omega
  have HN := hid_of hn
  clear hQ hr hs hl hlo hn
  go_enter Try.func58, Try.ntmps58
  by_cases hbig : 64 < sn
  · have hbig' : (64 : Int) < (sn : Int) := by omega
    have h64 : n = 64 := by have := HN.out; omega
    subst h64
    have hmk : ∀ w, (makeOp 58 (.int .i64 0) (.int .i64 64)).run Try.prog w = .ok (.value (.slice (some ⟨w.heap.size, 0, none⟩) 0 64)) (w.alloc (.cells (madeCells GEntry.zero.enc.toArray (64 * 3)) 60)) := HMK.out
    go_upto_region 5 with fail
    have HO := OutG.made (en := GEntry.enc) (sz := 3) (e := 60) W W (ext_Ext (Ext.refl _)) (madeCells GEntry.zero.enc.toArray (64 * 3)) 64 (by simp [size_madeCells]) (by omega)
    refine wp_world (fun V => OutG GEntry.enc 3 60 W V (some ⟨W.heap.size, 0, none⟩) 0 64 []) HO ?_
    clear HO
    intro V1 hO1
    have hb1 : blk V1 bs = some CS := (hO1.2.1.blk (blk_lt HB.out)).trans HB.out
    obtain ⟨b4, e4⟩ : ∃ b4, b4 = W.heap.size := ⟨_, rfl⟩
    rw [← e4] at hO1 ⊢
    clear e4
    have HO1 := hid_of hO1
    clear hO1
    go_upto_region 6 with fail
    refine wp_loop_f 39 (ltI W bs r lo sn) (fun f _ => sn - (intOf (f 5)).toNat) rfl ⟨rfl, 0, _, _, by omega, by show Value.int .i64 _ = Value.int .i64 _; congr 1, rfl, HO1.out⟩ ?_
    clear HO1 hb1 hb
    intro F V hrel
    obtain ⟨f0, k, a, c, hk, f5, f4, HO⟩ := hrel
    have H5 := hid_of f5
    rw [frame39l, f0, f5, f4]
    clear f0 f5 f4
    have hbV : blk V bs = some CS := (HO.out.2.1.blk (blk_lt HB.out)).trans HB.out
    obtain ⟨i, hi⟩ : ∃ i, i = lo + k := ⟨_, rfl⟩
    rw [← hi] at H5 ⊢
    by_cases hin : i < sn
    rotate_left 1
    · have hin' : ¬ (i : Int) < (sn : Int) := by omega
      have hkn : k = 64 := by omega
      subst hkn
      have HF : Hid (Q (.returned (.slice a 64 c)) V) := by
        rw [HQ.out]
        exact ⟨a, c, rfl, HO.out⟩
      clear HO
      go_wp2_with fail
      all_goals first | exact HF.out | (go_ret; exact HF.out)
    · have hin' : (i : Int) < (sn : Int) := by omega
      have i0 : (0 : Int) ≤ (i : Int) := by omega
      obtain ⟨j, hj⟩ : ∃ j, j = i % 64 := ⟨_, rfl⟩
      have hj64 : j < 64 := by omega
      have j0 : (0 : Int) ≤ (j : Int) := by omega
      have j64 : (j : Int) < 64 := by omega
      have jt : ((j : Int)).toNat = j := by omega
      have hrm : Int.tmod (i : Int) 64 = (j : Int) := by rw [Int.tmod_eq_emod_of_nonneg (by omega)]; omega
      have hwj : IntKind.i64.wrap (j : Int) = (j : Int) := by rw [IntKind.wrap_i64]; omega
      have hsg := HRG.out j hj64
      have lj : 4 + j * 3 + 3 ≤ CS.length := by rw [HL.out]; omega
      obtain ⟨a', c', V', hrun, hO', -⟩ := HO.out.app el58 (ring r j) (by rw [lstF_len]; omega) (GEntry.enc (ring r j)).toArray rfl 1
      have HO' : Hid (OutG GEntry.enc 3 60 W V' a' (k + 1) c' (lstF r lo (k + 1))) := by
        show OutG _ _ _ _ _ _ _ _ _
        rw [lstF_snoc, ← hi, ← hj]; exact hO'
      have hii : ((i : Int) + 1) = ((lo + (k + 1) : Nat) : Int) := by omega
      have HI := hid_of hii
      have hk1 : lo + (k + 1) ≤ sn := by omega
      clear hO' HO hi hj hii
      go_wp2_with (at_builtin; refine wpList_append_run rfl _ _ 58 rfl _ _ _ _ rfl rfl hrun ?_)
      refine ⟨rfl, rfl, ⟨rfl, k + 1, a', c', hk1, ?_, rfl, HO'⟩, ?_⟩
      · show Value.int .i64 _ = _
        first | (rw [← HI.out]; done) | (rw [← HI.out]; go_num)
      · show sn - (intOf (Value.int .i64 _)).toNat < sn - (intOf (F 5)).toNat
        rw [H5.out]
        simp [intOf]; omega
  · have hbig' : ¬ (64 : Int) < (sn : Int) := by omega
    have hnn : n = sn := by have := HN.out; omega
    subst hnn
    go_upto_region 5 with fail
    have HO := OutG.made (en := GEntry.enc) (sz := 3) (e := 60) W W (ext_Ext (Ext.refl _)) (madeCells GEntry.zero.enc.toArray (n * 3)) n (by simp [size_madeCells]) (by omega)
    refine wp_world (fun V => OutG GEntry.enc 3 60 W V (some ⟨W.heap.size, 0, none⟩) 0 n []) HO ?_
    clear HO
    intro V1 hO1
    have hb1 : blk V1 bs = some CS := (hO1.2.1.blk (blk_lt HB.out)).trans HB.out
    obtain ⟨b4, e4⟩ : ∃ b4, b4 = W.heap.size := ⟨_, rfl⟩
    rw [← e4] at hO1 ⊢
    clear e4
    have HO1 := hid_of hO1
    clear hO1
    go_upto_region 6 with fail
    refine wp_loop_f 39 (ltI W bs r lo n) (fun f _ => n - (intOf (f 5)).toNat) rfl ⟨rfl, 0, _, _, by omega, by show Value.int .i64 _ = Value.int .i64 _; congr 1, rfl, HO1.out⟩ ?_
    clear HO1 hb1 hb
    intro F V hrel
    obtain ⟨f0, k, a, c, hk, f5, f4, HO⟩ := hrel
    have H5 := hid_of f5
    rw [frame39l, f0, f5, f4]
    clear f0 f5 f4
    have hbV : blk V bs = some CS := (HO.out.2.1.blk (blk_lt HB.out)).trans HB.out
    obtain ⟨i, hi⟩ : ∃ i, i = lo + k := ⟨_, rfl⟩
    rw [← hi] at H5 ⊢
    by_cases hin : i < n
    rotate_left 1
    · have hin' : ¬ (i : Int) < (n : Int) := by omega
      have hkn : k = n := by omega
      subst hkn
      have HF : Hid (Q (.returned (.slice a k c)) V) := by
        rw [HQ.out]
        exact ⟨a, c, rfl, HO.out⟩
      clear HO
      go_wp2_with fail
      all_goals first | exact HF.out | (go_ret; exact HF.out)
    · have hin' : (i : Int) < (n : Int) := by omega
      have i0 : (0 : Int) ≤ (i : Int) := by omega
      obtain ⟨j, hj⟩ : ∃ j, j = i % 64 := ⟨_, rfl⟩
      have hj64 : j < 64 := by omega
      have j0 : (0 : Int) ≤ (j : Int) := by omega
      have j64 : (j : Int) < 64 := by omega
      have jt : ((j : Int)).toNat = j := by omega
      have hrm : Int.tmod (i : Int) 64 = (j : Int) := by rw [Int.tmod_eq_emod_of_nonneg (by omega)]; omega
      have hwj : IntKind.i64.wrap (j : Int) = (j : Int) := by rw [IntKind.wrap_i64]; omega
      have hsg := HRG.out j hj64
      have lj : 4 + j * 3 + 3 ≤ CS.length := by rw [HL.out]; omega
      obtain ⟨a', c', V', hrun, hO', -⟩ := HO.out.app el58 (ring r j) (by rw [lstF_len]; omega) (GEntry.enc (ring r j)).toArray rfl 1
      have HO' : Hid (OutG GEntry.enc 3 60 W V' a' (k + 1) c' (lstF r lo (k + 1))) := by
        show OutG _ _ _ _ _ _ _ _ _
        rw [lstF_snoc, ← hi, ← hj]; exact hO'
      have hii : ((i : Int) + 1) = ((lo + (k + 1) : Nat) : Int) := by omega
      have HI := hid_of hii
      have hk1 : lo + (k + 1) ≤ n := by omega
      clear hO' HO hi hj hii
      go_wp2_with (at_builtin; refine wpList_append_run rfl _ _ 58 rfl _ _ _ _ rfl rfl hrun ?_)
      refine ⟨rfl, rfl, ⟨rfl, k + 1, a', c', hk1, ?_, rfl, HO'⟩, ?_⟩
      · show Value.int .i64 _ = _
        first | (rw [← HI.out]; done) | (rw [← HI.out]; go_num)
      · show n - (intOf (Value.int .i64 _)).toNat < n - (intOf (F 5)).toNat
        rw [H5.out]
        simp [intOf]; omega
end Go.Proofs.Qxb6500787a
