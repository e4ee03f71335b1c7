
import Derived.Test.Qxb6500787aGreatTp
import Derived.StillTailTactics
import Derived.Deep.QuietTactic
import Derived.BigQuiet
import Derived.Deep.RegionHeld
import Derived.Deep.CutRange
import Derived.Laws.ResultCell
import Derived.Laws.Rows
import Derived.DeepKeys
import Derived.DataBytes
import Derived.Laws.StructEq
import Derived.Laws.AppendOwn
import Derived.Laws.MakeOwn
import Derived.Lib.AppendStr
set_option linter.unusedSimpArgs false
set_option linter.unusedVariables false
namespace Go.Proofs.Qxb6500787aGreat
open Go.RowKit Go.Blk
attribute [local go_sem ↓] execOp_load execOp_store execOp_alloc
attribute [local go_sem] Tryz.ld26 Tryz.st26 Tryz.ld27 Tryz.st27 Tryz.ld28 Tryz.st28 Tryz.ld3 Tryz.st3 Tryz.ld29 Tryz.st29 Tryz.ld44 Tryz.st44 Tryz.ld4 Tryz.st4 Tryz.ld50 Tryz.st50 Tryz.ld32 Tryz.st32 Tryz.ld49 Tryz.st49 Tryz.ld68 Tryz.st68 Tryz.ld9 Tryz.st9 Tryz.ld40 Tryz.st40 Tryz.ld138 Tryz.st138 Tryz.ld139 Tryz.st139 Tryz.ld146 Tryz.st146 Tryz.ld183 Tryz.st183 Tryz.ld184 Tryz.st184 Tryz.ld192 Tryz.st192 Tryz.ld195 Tryz.st195 Tryz.ld217 Tryz.st217 Tryz.ld159 Tryz.st159 Tryz.ld142 Tryz.st142 Tryz.ld2 Tryz.st2 Tryz.ld5 Tryz.st5 Tryz.ld12 Tryz.st12 Tryz.ld21 Tryz.st21 Tryz.ld22 Tryz.st22 Tryz.ld24 Tryz.st24 Tryz.ld58 Tryz.st58 Tryz.ld97 Tryz.st97 Tryz.ld101 Tryz.st101 Tryz.ld116 Tryz.st116 Tryz.ld121 Tryz.st121 Tryz.ld135 Tryz.st135 Tryz.ld136 Tryz.st136 Tryz.ld143 Tryz.st143 Tryz.ld148 Tryz.st148 Tryz.ld154 Tryz.st154 Tryz.ld173 Tryz.st173 Tryz.ld187 Tryz.st187 Tryz.ld222 Tryz.st222 Tryz.ld241 Tryz.st241 Tryz.ld248 Tryz.st248 Tryz.ld268 Tryz.st268 Tryz.ld272 Tryz.st272 Tryz.ld153 Tryz.st153 Tryz.ld255 Tryz.st255 Tryz.ld256 Tryz.st256 Tryz.ld129 Tryz.st129 Tryz.ld152 Tryz.st152 Tryz.ld31 Tryz.st31 Tryz.ld46 Tryz.st46 Tryz.ld52 Tryz.st52 Tryz.ld54 Tryz.st54 Tryz.ld60 Tryz.st60 Tryz.ld70 Tryz.st70 Tryz.ld74 Tryz.st74 Tryz.ld93 Tryz.st93 Tryz.ld141 Tryz.st141 Tryz.ld151 Tryz.st151 Tryz.ld170 Tryz.st170 Tryz.ld186 Tryz.st186 Tryz.ld189 Tryz.st189 Tryz.ld194 Tryz.st194 Tryz.ld197 Tryz.st197 Tryz.ld219 Tryz.st219 Tryz.ld224 Tryz.st224 Tryz.ld230 Tryz.st230 Tryz.ld235 Tryz.st235 Tryz.ld243 Tryz.st243 Tryz.ld247 Tryz.st247 Tryz.ld252 Tryz.st252 Tryz.ld258 Tryz.st258 Tryz.al153 Tryz.al255 Tryz.al256 Tryz.al129 Tryz.al152 Tryz.al31 Tryz.al46 Tryz.al52 Tryz.al54 Tryz.al60 Tryz.al70 Tryz.al74 Tryz.al93 Tryz.al141 Tryz.al151 Tryz.al170 Tryz.al186 Tryz.al189 Tryz.al194 Tryz.al197 Tryz.al219 Tryz.al224 Tryz.al230 Tryz.al235 Tryz.al243 Tryz.al247 Tryz.al252 Tryz.al258
attribute [local go_sem] Request.length_enc Request.ok_enc Request.all_get Request.all_set Request.kind_get Request.kind_set Request.blob_get Request.blob_set Request.items_get Request.items_set Request.pred_get Request.pred_set Request.slots_get Request.slots_set Trace.length_enc Trace.ok_enc Trace.all_get Trace.all_set Trace.op_get Trace.op_set Trace.calls_get Trace.calls_set Item.length_enc Item.ok_enc Item.all_get Item.all_set Item.del_get Item.del_set Item.pred_get Item.pred_set Item.args_get Item.args_set Reply.length_enc Reply.ok_enc Reply.all_get Reply.all_set Reply.code_get Reply.code_set Reply.kind_get Reply.kind_set Reply.index_get Reply.index_set Reply.yes_get Reply.yes_set Reply.preds_get Reply.preds_set Reply.rules_get Reply.rules_set Reply.arity_get Reply.arity_set Reply.rows_get Reply.rows_set Reply.fact_get Reply.fact_set Reply.fact_del_get Reply.fact_del_set Reply.fact_pred_get Reply.fact_pred_set Reply.fact_args_get Reply.fact_args_set GEntry.length_enc GEntry.ok_enc GEntry.all_get GEntry.all_set GEntry.seq_get GEntry.seq_set GEntry.kind_get GEntry.kind_set GEntry.code_get GEntry.code_set GOp.length_enc GOp.ok_enc GOp.all_get GOp.all_set GOp.kind_get GOp.kind_set GOp.raw_get GOp.raw_set Reader.length_enc Reader.ok_enc Reader.all_get Reader.all_set Reader.buf_get Reader.buf_set Reader.at__get Reader.at__set Slot.length_enc Slot.ok_enc Slot.all_get Slot.all_set Slot.bound_get Slot.bound_set Slot.name_get Slot.name_set Session.length_enc Session.ok_enc Session.all_get Session.all_set Session.svc_get Session.svc_set Session.buf_get Session.buf_set Session.closed_get Session.closed_set GProgram.length_enc GProgram.ok_enc GProgram.all_get GProgram.all_set GProgram.pool_get GProgram.pool_set GProgram.preds_get GProgram.preds_set GProgram.rules_get GProgram.rules_set GProgram.strata_get GProgram.strata_set PredInfo.length_enc PredInfo.ok_enc PredInfo.all_get PredInfo.all_set PredInfo.arity_get PredInfo.arity_set PredInfo.base_get PredInfo.base_set PredInfo.stratum_get PredInfo.stratum_set Change.length_enc Change.ok_enc Change.all_get Change.all_set Change.del_get Change.del_set Change.pred_get Change.pred_set Change.t_get Change.t_set Store.length_enc Store.ok_enc Store.all_get Store.all_set Store.names_get Store.names_set Store.arity_get Store.arity_set Store.rows_get Store.rows_set Src.length_enc Src.ok_enc Src.all_get Src.all_set Src.b_get Src.b_set Src.at__get Src.at__set Atom.length_enc Atom.ok_enc Atom.all_get Atom.all_set Atom.pred_get Atom.pred_set Atom.args_get Atom.args_set GRule.length_enc GRule.ok_enc GRule.all_get GRule.all_set GRule.head_get GRule.head_set GRule.body_get GRule.body_set GRule.head_pred_get GRule.head_pred_set GRule.head_args_get GRule.head_args_set Cert.length_enc Cert.ok_enc Cert.all_get Cert.all_set Cert.names_get Cert.names_set Cert.nodes_get Cert.nodes_set Fact.length_enc Fact.ok_enc Fact.all_get Fact.all_set Fact.pred_get Fact.pred_set Fact.t_get Fact.t_set Literal.length_enc Literal.ok_enc Literal.all_get Literal.all_set Literal.neg_get Literal.neg_set Literal.atom_get Literal.atom_set Literal.atom_pred_get Literal.atom_pred_set Literal.atom_args_get Literal.atom_args_set Engine.length_enc Engine.ok_enc Engine.all_get Engine.all_set Engine.prog_get Engine.prog_set Engine.st_get Engine.st_set SrcCertm.length_enc SrcCertm.ok_enc SrcCertm.all_get SrcCertm.all_set SrcCertm.b_get SrcCertm.b_set SrcCertm.at__get SrcCertm.at__set GNode.length_enc GNode.ok_enc GNode.all_get GNode.all_set GNode.rule_get GNode.rule_set GNode.pred_get GNode.pred_set GNode.vals_get GNode.vals_set GNode.refs_get GNode.refs_set Term.length_enc Term.ok_enc Term.all_get Term.all_set Term.var_get Term.var_set Term.n_get Term.n_set Env.length_enc Env.ok_enc Env.all_get Env.all_set Env.val_get Env.val_set Env.set_get Env.set_set
attribute [local go_sem] size_put size_ext blk_put free_put blk_alloc free_alloc blk_drew free_drew blk_ext free_ext lookOr_some putOr_some segAt_some cellAt_some storeIn_some put_put put_alloc_new length_arr ok_arr_u8 ok_arr_u32 ok_arr_u64 ok_arr_i64 ok_arr_sl cellsV_agg cellsV_int cellsV_bool cellsV_string cellsV_pointer cellsV_slice cellsV_sl ok_int ok_bool ok_string ok_pointer ok_slice ok_sl toList_arr seg_arr set_arr nth_splice nth_splice0 seg_splice seg_splice0 splice_splice splice_splice0 length_splice_if
attribute [local go_sem ↓] execOp_box
attribute [local go_sem] box_run nth_arr_u8 put_arr_u8 blk_drewN free_drewN put_drewN blk_raw free_raw
/-- An element type of a row. -/
structure ElT {α : Type} (en : α → List Value) (sz bytes : Nat) (t e : TypeId) : Prop where
  und : Tryz.prog.underlying t = some (.slice e)
  info : ∃ i z, Tryz.prog.info? e = some i ∧ i.zero = some z ∧ i.size = sz ∧ i.bytes = bytes ∧ z.cells.size = sz
  len : ∀ x, (en x).length = sz
  one : ∀ x, (en x).all (fun v => v.oneCell') = true
  pos : 0 < sz
  small : bytes ≤ 1000
/-- A row in new memory. -/
def OutG {α : Type} (en : α → List Value) (sz : Nat) (e : TypeId) (W V : World) (a : Option Addr) (n c : Nat) (ts : List α) : Prop := V.ownsRow W.heap.size e sz (.slice a n c) ts.length (ts.flatMap en) ∧ W.Extends V ∧ n = ts.length
section
variable {α : Type} {en : α → List Value} {sz bytes : Nat} {t e : TypeId} {W V V' : World} {a : Option Addr} {n c : Nat} {ts : List α}
theorem OutG.ext (h : OutG en sz e W V a n c ts) (he : V.Extends V') : OutG en sz e W V' a n c ts := by
  refine ⟨?_, h.2.1.trans he, h.2.2⟩
  exact row_keep h.1 (fun k hk => he.block k (row_at h.1 k hk).2.1)
theorem OutG.nil (he : W.Extends V) : OutG en sz e W V none 0 0 [] := ⟨⟨by simp, .inl ⟨rfl, rfl⟩⟩, he, rfl⟩
theorem OutG.made (W V : World) (he : W.Extends V) (A : Array Value) (cap : Nat) (hA : A.size = cap * sz) (hc : cap ≤ 1000000000) : OutG en sz e W (V.alloc (.cells A e)) (some ⟨V.heap.size, 0, none⟩) 0 cap [] := ⟨World.ownsRow_made V A cap he.size (by simp only [maxLen]; omega) hA, extends_alloc he _, rfl⟩
theorem OutG.base {W0 : World} (h : OutG en sz e W0 V a n c ts) (he : W.Extends W0) : OutG en sz e W V a n c ts := ⟨row_base h.1 he.size, he.trans h.2.1, h.2.2⟩
theorem OutG.rw (hE : ElT en sz bytes t e) (h : OutG en sz e W V a n c ts) : Rw en sz V a n ts := (rw_own hE.len h.1).1
theorem OutG.nw (hE : ElT en sz bytes t e) (h : OutG en sz e W V a n c ts) : Rw en sz (newc W.heap.size V) a n ts := (rw_own hE.len h.1).1.tocore (fun b C e' _ => lab_ge (row_at h.1 b (by rw [e']; rfl)).1)
theorem OutG.app (hE : ElT en sz bytes t e) (h : OutG en sz e W V a n c ts) (x : α) (hl : ts.length ≤ 1000000000) (A : Array Value) (hA : A = (en x).toArray) (c1 : Nat) :
    ∃ a' c' V', (Builtin.append_ #[t, t] t #[.slice a n c, .slice (some ⟨V.heap.size, 0, none⟩) 1 c1]).run Tryz.prog (V.alloc (.cells A e)) = .ok (.slice a' (n + 1) c') V' ∧ OutG en sz e W V' a' (n + 1) c' (ts ++ [x]) ∧ Gro V V' (.slice a n c) (.slice a' (n + 1) c') := by
  subst hA
  have hx1 : V.Extends (V.alloc (.cells (en x).toArray e)) := extends_alloc (ext_Ext (Ext.refl _)) _
  have h1 := h.ext hx1
  obtain ⟨v', V', hr, ho, hg, hbk⟩ := appG en sz bytes t e hE.und hE.info hE.len hE.one hE.pos hE.small W.heap.size (V.alloc (.cells (en x).toArray e)) t (.slice a n c) ts x V.heap.size c1 h1.1 ((blk_alloc _ _ _ _).trans (if_pos rfl)) h1.2.1.size (by omega)
  obtain ⟨a', c', rfl⟩ := row_val ho
  have hm : (ts ++ [x]).length = n + 1 := by rw [List.length_append, List.length_singleton, h.2.2]
  rw [hm] at hr hbk
  refine ⟨a', c', V', hr, ⟨by rw [← hm]; exact ho, grown_ext h1.2.1 hg (fun k hk => (row_at h1.1 k hk).1), hm.symm⟩, ?_⟩
  refine ⟨Nat.le_trans hx1.size hg.size, fun k hk hn => (hg.block k (Nat.lt_of_lt_of_le hk hx1.size) (fun e => hn e.symm)).trans (hx1.block k hk), fun k hk => ?_⟩
  rcases hbk with hbk | hbk
  · exact .inl (hbk ▸ hk)
  · right
    rw [hbk] at hk
    have := (Option.some.inj hk).symm
    have := hx1.size
    omega
end
theorem el50 : ElT encS 1 16 43 9 := ⟨Tryz.underlying43, info9, encS_len, encS_one, by omega, by omega⟩
theorem internF_len {N : List (List UInt8)} (h : N.length ≤ 256) (nm : List UInt8) : (internF N nm).2.2.length ≤ 256 := by
  unfold internF
  split
  · exact h
  · split
    · exact h
    · rw [List.length_append, List.length_singleton]; omega
/-- The table after c names. -/
def nmS (N : List (List UInt8)) (args : List (List UInt8)) : Nat → List (List UInt8)
  | 0 => N
  | c + 1 => (internF (nmS N args c) (args.getD c [])).2.2
theorem nmS_len {N : List (List UInt8)} (h : N.length ≤ 256) (args : List (List UInt8)) : ∀ c, (nmS N args c).length ≤ 256
  | 0 => h
  | c + 1 => internF_len (nmS_len h args c) _
def nmV (N args : List (List UInt8)) (c : Nat) : Int := (internF (nmS N args c) (args.getD c [])).1
def nmC (N args : List (List UInt8)) (c : Nat) : Int := (internF (nmS N args c) (args.getD c [])).2.1
/-- The constants of a fact, looked up. -/
def resV (N args : List (List UInt8)) (c : Nat) : Int := lookF N (args.getD c [])
def rsI (W : World) (bi b4 b5 : Nat) (aa : Option Addr) (an ac : Nat) (vf : Nat → Int) (f : Nat → Value) (V : World) : Prop := f 0 = .pointer (some ⟨bi, 0, none⟩) ∧ f 1 = .slice aa an ac ∧ f 4 = .pointer (some ⟨b4, 0, none⟩) ∧ f 5 = .pointer (some ⟨b5, 0, none⟩) ∧ ∃ c : Nat, c ≤ an ∧ f 6 = .int .i64 (c : Nat) ∧ Hid (W.Extends V ∧ blk V b4 = some (arr i64v (mkT vf 0)) ∧ free V b4 = true ∧ blk V b5 = some (arr i64v (mkT vf c)) ∧ free V b5 = true)
set_option maxRecDepth 100000 in
theorem frame25r (f : Nat → Value) : frameN 25 f = #[f 0, f 1, f 2, f 3, f 4, f 5, f 6, f 7, f 8, f 9, f 10, f 11, f 12, f 13, f 14, f 15, f 16, f 17, f 18, f 19, f 20, f 21, f 22, f 23, f 24] := by kernel_rfl
set_option maxRecDepth 40000 in
set_option maxHeartbeats 4000000 in
theorem resolve_any {B : Nat} {O : Own} {W : World} {g bi : Nat} {s : InsS} (h : InsAt B O W g bi s) (hN : s.N.length ≤ 256) (aa : Option Addr) (an ac : Nat) (args : List (List UInt8)) (hA : Rw encS 1 W aa an args) (han : an ≤ 4) : Calls Tryz.prog 136 #[.pointer (some ⟨bi, 0, none⟩), .slice aa an ac] W fun e V => e = .returned (.agg (arr i64v (mkT (resV s.N args) args.length)).toArray) ∧ W.Extends V := by
  obtain ⟨CI, bst, be, A, hm⟩ := h
  have HM := hid_of hm
  have HA := hid_of hA
  have HAL := hid_of hA.1
  obtain ⟨vf, hvf⟩ : ∃ vf, vf = resV s.N args := ⟨_, rfl⟩
  have HVF := hid_of hvf
  have ci4 := hm.ic.c4
  have cl : 4 < CI.length := by rw [hm.ic.len]; omega
  clear hm hA hvf
  go_enter Tryz.func136, Tryz.ntmps136
  go_upto_region 3 with fail
  refine wp_world (fun V => W.Extends V ∧ blk V W.heap.size = some (arr i64v (mkT vf 0)) ∧ free V W.heap.size = true ∧ blk V (W.heap.size + 1) = some (arr i64v (mkT vf 0)) ∧ free V (W.heap.size + 1) = true) ?_ ?_
  · rw [mkT_zero]
    refine ⟨extends_alloc (extends_alloc (ext_Ext (Ext.refl _)) _) _, ?_, ?_, ?_, ?_⟩
    all_goals first
      | (repeat rw [blk_alloc, if_neg (by simp only [World.size_alloc]; omega)]
         rw [blk_alloc, if_pos (by simp only [World.size_alloc])]
         done)
      | (unfold free
         repeat rw [heap_alloc, if_neg (by simp only [World.size_alloc]; omega)]
         rw [heap_alloc, if_pos (by simp only [World.size_alloc])]
         rfl)
  intro V1 hV1
  try simp only [World.size_alloc]
  obtain ⟨b4, e_b4⟩ : ∃ b, b = W.heap.size := ⟨_, rfl⟩
  obtain ⟨b5, e_b5⟩ : ∃ b, b = W.heap.size + 1 := ⟨_, rfl⟩
  rw [← e_b5] at hV1 ⊢
  rw [← e_b4] at hV1 ⊢
  have hn_b4 : W.heap.size ≤ b4 := by omega
  have n_b4_b5 : ¬ b4 = b5 := by omega
  have n_b5_b4 : ¬ b5 = b4 := by omega
  have hn_b5 : W.heap.size ≤ b5 := by omega
  clear e_b4 e_b5
  have H1 := hid_of hV1
  clear hV1
  refine wp_loop_f 25 (rsI W bi b4 b5 aa an ac vf) (fun f _ => an - (intOf (f 6)).toNat) rfl ⟨rfl, rfl, rfl, rfl, 0, by omega, rfl, H1⟩ ?_
  clear H1
  intro F V hrel
  obtain ⟨f0, f1, f4, f5, c, hc, f6, HV⟩ := hrel
  have H6 := hid_of f6
  rw [frame25r, f0, f1, f4, f5, f6]
  clear f0 f1 f4 f5 f6
  obtain ⟨hx, hb4, hf4, hb5, hf5⟩ := HV.out
  by_cases hin : c < an
  · have hin' : (c : Int) < (an : Int) := by omega
    have h4 : c < 4 := by omega
    have h3 : c ≤ 3 := by omega
    have c0 : (0 : Int) ≤ (c : Int) := by omega
    have c1 : (c : Int) < 4 := by omega
    have c2 : ((c : Int)).toNat = c := by omega
    obtain ⟨nm, hnm⟩ : ∃ nm, args[c]? = some nm := ⟨_, List.getElem?_eq_getElem (by rw [HAL.out]; exact hin)⟩
    obtain ⟨bs, Cs, s1, s2, s3, s4⟩ := str_at (HA.out.ext' hx) hnm
    subst s1
    have hmV := HM.out.ext hx
    have hbi := hmV.cell
    have hlk := lookup_any (hmV.st.ext (extd V)) (by omega) nm
    have hvc : lookF s.N nm = vf c := by
      rw [HVF.out]
      unfold resV
      rw [List.getD_eq_getElem?_getD, hnm]; rfl
    rw [hvc] at hlk
    have hput := mkT_put vf h4 rfl
    obtain ⟨T1, hT1⟩ : ∃ T1, T1 = mkT vf (c + 1) := ⟨_, rfl⟩
    obtain ⟨T0, hT0⟩ : ∃ T0, T0 = mkT vf c := ⟨_, rfl⟩
    rw [← hT1, ← hT0] at hput
    rw [← hT0] at hb5
    have hnb : ¬ bi = b5 := fun e => by have := blk_lt HM.out.cell; omega
    have hns : ¬ bs = b5 := fun e => by
      obtain ⟨b9, C9, u1, u2, _⟩ := str_at HA.out hnm
      have := congrArg Addr.block (Option.some.inj u1)
      have h9 : bs = b9 := this
      have := blk_lt u2; omega
    have hfin : ∀ X, blk (put V.drew b5 X) bi = some CI ∧ blk (put V.drew b5 X) bs = some Cs := fun X => ⟨by rw [blk_put, if_neg hnb]; exact hbi, by rw [blk_put, if_neg hns]; exact s2⟩
    have HV' : Hid (W.Extends (put V.drew b5 (arr i64v T1)) ∧ blk (put V.drew b5 (arr i64v T1)) b4 = some (arr i64v (mkT vf 0)) ∧ free (put V.drew b5 (arr i64v T1)) b4 = true ∧ blk (put V.drew b5 (arr i64v T1)) b5 = some (arr i64v (mkT vf (c + 1))) ∧ free (put V.drew b5 (arr i64v T1)) b5 = true) := by
      refine ⟨extends_put (extends_drew hx) hn_b5 _, by rw [blk_put, if_neg n_b4_b5]; exact hb4, by rw [free_put]; exact hf4, ?_, by rw [free_put]; exact hf5⟩
      have hb5d : blk V.drew b5 = some (arr i64v T0) := hb5
      rw [blk_put, if_pos rfl, hb5d, hT1]; rfl
    obtain ⟨vc, hvc'⟩ : ∃ vc, vc = vf c := ⟨_, rfl⟩
    rw [← hvc'] at hlk hput
    clear HV hx hvc hnm hT0 hT1 hmV hnb hns hvc' hb4 hf4
    go_upto_region 5 with fail
    refine wp_region_held_drew (S := fun W' => blk W' bi = some CI ∧ blk W' bs = some Cs) (by kernel_rfl) ⟨hbi, s2⟩ (fun hHeld => ?_)
    refine wpAnyH_take (i := 0) (oi := ⟨_, _, _, _, _, _⟩) (v := ?_) rfl (by kernel_rfl) (by kernel_rfl) (by kernel_rfl) (fun _ _ _ h => h) (Or.inl ⟨by rfl, ?_⟩) (by assumption) ?_
    rotate_left 1
    · intro W' hSw
      obtain ⟨hS1, hS2⟩ := hSw
      go_simp
      try with_reducible rfl
    try simp only [Act.put, List.setIfInBounds_toArray, List.set_cons_zero, List.set_cons_succ]
    refine wpAnyH_take (i := 1) (oi := ⟨_, _, _, _, _, _⟩) (v := ?_) rfl (by kernel_rfl) (by kernel_rfl) (by kernel_rfl) (fun _ _ _ h => h) (Or.inl ⟨by rfl, ?_⟩) (by assumption) ?_
    rotate_left 1
    · intro W' hSw
      obtain ⟨hS1, hS2⟩ := hSw
      go_simp
      try with_reducible rfl
    try simp only [Act.put, List.setIfInBounds_toArray, List.set_cons_zero, List.set_cons_succ]
    refine wpAnyH_take (i := 2) (oi := ⟨_, _, _, _, _, _⟩) (v := ?_) rfl (by kernel_rfl) (by kernel_rfl) (by kernel_rfl) (fun _ _ _ h => h) (Or.inl ⟨by rfl, ?_⟩) (by assumption) ?_
    rotate_left 1
    · intro W' hSw
      obtain ⟨hS1, hS2⟩ := hSw
      go_simp
      try with_reducible rfl
    try simp only [Act.put, List.setIfInBounds_toArray, List.set_cons_zero, List.set_cons_succ]
    refine wpAnyH_take (i := 3) (oi := ⟨_, _, _, _, _, _⟩) (v := ?_) rfl (by kernel_rfl) (by kernel_rfl) (by kernel_rfl) (fun _ _ _ h => h) (Or.inl ⟨by rfl, ?_⟩) (by assumption) ?_
    rotate_left 1
    · intro W' hSw
      obtain ⟨hS1, hS2⟩ := hSw
      go_simp
      try with_reducible rfl
    try simp only [Act.put, List.setIfInBounds_toArray, List.set_cons_zero, List.set_cons_succ]
    refine wpAnyH_take (i := 4) (oi := ⟨_, _, _, _, _, _⟩) (v := ?_) rfl (by kernel_rfl) (by kernel_rfl) (by kernel_rfl) (fun _ _ _ h => h) (Or.inl ⟨by rfl, ?_⟩) (by assumption) ?_
    rotate_left 1
    · intro W' hSw
      obtain ⟨hS1, hS2⟩ := hSw
      go_simp
      try with_reducible rfl
    try simp only [Act.put, List.setIfInBounds_toArray, List.set_cons_zero, List.set_cons_succ]
    refine wpAnyH_take (i := 5) (oi := ⟨_, _, _, _, _, _⟩) (v := ?_) rfl (by kernel_rfl) (by kernel_rfl) (by kernel_rfl) (fun _ _ _ h => h) (Or.inl ⟨by rfl, ?_⟩) (by assumption) ?_
    rotate_left 1
    · intro W' hSw
      obtain ⟨hS1, hS2⟩ := hSw
      go_simp
      try with_reducible rfl
    try simp only [Act.put, List.setIfInBounds_toArray, List.set_cons_zero, List.set_cons_succ]
    refine wpAnyH_take (i := 6) (oi := ⟨_, _, _, _, _, _⟩) (v := ?_) rfl (by kernel_rfl) (by kernel_rfl) (by kernel_rfl) (fun _ _ _ h => h) (Or.inl ⟨by rfl, ?_⟩) (by assumption) ?_
    rotate_left 1
    · intro W' hSw
      obtain ⟨hS1, hS2⟩ := hSw
      go_simp
      try with_reducible rfl
    try simp only [Act.put, List.setIfInBounds_toArray, List.set_cons_zero, List.set_cons_succ]
    refine wpAnyH_take (i := 7) (oi := ⟨_, _, _, _, _, _⟩) (v := ?_) rfl (by kernel_rfl) (by kernel_rfl) (by kernel_rfl) (fun _ _ _ h => h) (Or.inl ⟨by rfl, ?_⟩) (by assumption) ?_
    rotate_left 1
    · intro W' hSw
      obtain ⟨hS1, hS2⟩ := hSw
      go_simp
      try with_reducible rfl
    try simp only [Act.put, List.setIfInBounds_toArray, List.set_cons_zero, List.set_cons_succ]
    refine wpAnyH_take (i := 8) (oi := ⟨_, _, _, _, _, _⟩) (v := ?_) rfl (by kernel_rfl) (by kernel_rfl) (by kernel_rfl) (fun _ _ _ h => h) (Or.inl ⟨by rfl, ?_⟩) (by assumption) ?_
    rotate_left 1
    · intro W' hSw
      obtain ⟨hS1, hS2⟩ := hSw
      go_simp
      try with_reducible rfl
    try simp only [Act.put, List.setIfInBounds_toArray, List.set_cons_zero, List.set_cons_succ]
    refine wpAnyH_ready (rs := [9]) (by kernel_rfl) (by simp) ?_
    refine AllReadyH.cons (o := ⟨_, _, _, _, _, _⟩) rfl (fun K' hK => ?_) AllReadyH.nil
    go_simp
    refine hlk.mono ?_
    rintro en V6 ⟨rfl, e9⟩
    replace e9 := e9.symm
    subst e9
    dsimp only
    refine hK.out _ _ ⟨hbi, s2⟩ (fun hHeld => ?_)
    clear hK K'
    try simp only [Act.put, List.setIfInBounds_toArray, List.set_cons_zero, List.set_cons_succ]
    refine wpAnyH_take (i := 10) (oi := ⟨_, _, _, _, _, _⟩) (v := ?_) rfl (by kernel_rfl) (by kernel_rfl) (by kernel_rfl) (fun _ _ _ h => h) (Or.inl ⟨by rfl, ?_⟩) (by assumption) ?_
    rotate_left 1
    · intro W' hSw
      obtain ⟨hS1, hS2⟩ := hSw
      go_simp
      try with_reducible rfl
    try simp only [Act.put, List.setIfInBounds_toArray, List.set_cons_zero, List.set_cons_succ]
    refine wpAnyH_ready (rs := [11]) (by kernel_rfl) (by simp) ?_
    refine AllReadyH.cons (o := ⟨_, _, _, _, _, _⟩) rfl (fun K' hK => ?_) AllReadyH.nil
    go_simp
    refine hK.out _ _ (hfin _) (fun hHeld => ?_)
    clear hK K'
    try simp only [Act.put, List.setIfInBounds_toArray, List.set_cons_zero, List.set_cons_succ]
    refine wpAnyH_done (by kernel_rfl) ?_ _
    go_wp2_with fail
    refine ⟨rfl, rfl, ⟨rfl, rfl, rfl, rfl, c + 1, by omega, ?_, HV'⟩, ?_⟩
    · show Value.int .i64 _ = _
      go_num
    · show an - (intOf (Value.int .i64 _)).toNat < an - (intOf (F 6)).toNat
      rw [H6.out]
      simp [intOf]; omega
  · obtain rfl : c = an := by omega
    have hin' : ¬ ((c : Int) < (c : Int)) := by omega
    have HX : Hid (W.Extends (put V b4 (arr i64v (mkT vf c)))) := extends_put hx hn_b4 _
    have HB : Hid (blk (put V b4 (arr i64v (mkT vf c))) b4 = some (arr i64v (mkT vf c))) := by
      show blk _ _ = _
      rw [blk_put, if_pos rfl, hb4]; rfl
    obtain ⟨T, hT⟩ : ∃ T, T = mkT vf c := ⟨_, rfl⟩
    obtain ⟨T0, hT0⟩ : ∃ T0, T0 = mkT vf 0 := ⟨_, rfl⟩
    have HT := hid_of hT
    rw [← hT] at HX HB hb5
    rw [← hT0] at hb4
    clear HV hT hT0 hx
    go_wp2_with fail
    refine ret_cell (C := arr i64v T) rfl rfl HB.out (by kernel_rfl) (by rw [length_arr]; kernel_rfl) rfl ?_
    exact ⟨by rw [HT.out, HVF.out, HAL.out], HX.out⟩
def IntPost (B : Nat) (O : Own) (W : World) (g bi : Nat) (s : InsS) (args : List (List UInt8)) (e : Ending) (V : World) : Prop := ∃ O', Fr (isS g) O W O' V ∧ (((∀ c, c < args.length → nmC s.N args c = 0) ∧ e = .returned (.tuple #[.agg (arr i64v (mkT (nmV s.N args) args.length)).toArray, .int .i64 0]) ∧ InsAt B O' V g bi ⟨s.p, nmS s.N args args.length, s.R, s.U, s.live⟩) ∨ ∃ c, c < args.length ∧ (∀ c', c' < c → nmC s.N args c' = 0) ∧ nmC s.N args c ≠ 0 ∧ e = .returned (.tuple #[.agg (arr i64v (Vector.replicate 4 (0 : Int))).toArray, .int .i64 (nmC s.N args c)]) ∧ InsAt B O' V g bi ⟨s.p, nmS s.N args (c + 1), s.R, s.U, s.live⟩)
theorem scr_I (g : Nat) : ¬ isI g (.a 0 9) := by rintro ⟨j, e | e⟩ <;> (have := (Lab.a.inj e).1; omega)
theorem scr_S (g : Nat) : ¬ isS g (.a 0 9) := by rintro ⟨j, e⟩; have := (Lab.a.inj e).1; omega
/-- A block of one's own is written. -/
theorem InsAt.scr {B : Nat} {O : Own} {W : World} {g bi : Nat} {s : InsS} (h : InsAt B O W g bi s) {b : Nat} (hb : O b = .a 0 9) (C : List Value) : InsAt B O (put W b C) g bi s := h.fr (L := fun l => l = .a 0 9) ((Fr.refl _ _ _).put (L := fun l => l = .a 0 9) hb _) (fun l hl e => scr_I g (e ▸ hl)) (fun e => by cases e)
def itnI (B : Nat) (O1 : Own) (V1 : World) (g bi b4 b6 : Nat) (aa : Option Addr) (an ac : Nat) (s : InsS) (args : List (List UInt8)) (f : Nat → Value) (V : World) : Prop := f 0 = .pointer (some ⟨bi, 0, none⟩) ∧ f 1 = .slice aa an ac ∧ f 4 = .pointer (some ⟨b4, 0, none⟩) ∧ f 6 = .pointer (some ⟨b6, 0, none⟩) ∧ ∃ c : Nat, c ≤ an ∧ f 7 = .int .i64 (c : Nat) ∧ Hid (∃ O', Fr (isS g) O1 V1 O' V ∧ InsAt B O' V g bi ⟨s.p, nmS s.N args c, s.R, s.U, s.live⟩ ∧ (∀ c', c' < c → nmC s.N args c' = 0) ∧ blk V b4 = some (arr i64v (mkT (nmV s.N args) 0)) ∧ free V b4 = true ∧ blk V b6 = some (arr i64v (mkT (nmV s.N args) c)) ∧ free V b6 = true ∧ O' b4 = .a 0 9 ∧ O' b6 = .a 0 9)
attribute [local go_sem ↓] execOp_build
attribute [local go_sem] build153
set_option maxRecDepth 100000 in
theorem frame36i (f : Nat → Value) : frameN 36 f = #[f 0, f 1, f 2, f 3, f 4, f 5, f 6, f 7, f 8, f 9, f 10, f 11, f 12, f 13, f 14, f 15, f 16, f 17, f 18, f 19, f 20, f 21, f 22, f 23, f 24, f 25, f 26, f 27, f 28, f 29, f 30, f 31, f 32, f 33, f 34, f 35] := by kernel_rfl
set_option maxRecDepth 40000 in
set_option maxHeartbeats 4000000 in
theorem internI_any {B : Nat} {O : Own} {W : World} {g bi : Nat} {s : InsS} (h : InsAt B O W g bi s) (hB : B ≤ W.heap.size) (hN : s.N.length ≤ 256) (aa : Option Addr) (an ac : Nat) (args : List (List UInt8)) (hA : Rw encS 1 (core O W) aa an args) (han : an ≤ 4) : Calls Tryz.prog 133 #[.pointer (some ⟨bi, 0, none⟩), .slice aa an ac] W (IntPost B O W g bi s args) := by
  obtain ⟨Q, hQ⟩ : ∃ Q, Q = IntPost B O W g bi s args := ⟨_, rfl⟩
  rw [← hQ]
  have HQ := hid_of hQ
  have HH := hid_of h
  have HA := hid_of hA
  have HAL := hid_of hA.1
  have HN := hid_of hN
  clear h hA hQ hN
  go_enter Tryz.func133, Tryz.ntmps133
  go_upto_region 3 with fail
  refine wp_world (fun V => W.Extends V ∧ blk V W.heap.size = some (arr i64v (mkT (nmV s.N args) 0)) ∧ free V W.heap.size = true ∧ blk V (W.heap.size + 1) = some (arr i64v (mkT (nmV s.N args) 0)) ∧ free V (W.heap.size + 1) = true) ?_ ?_
  · rw [mkT_zero]
    refine ⟨extends_alloc (extends_alloc (ext_Ext (Ext.refl _)) _) _, ?_, ?_, ?_, ?_⟩
    all_goals first
      | (repeat rw [blk_alloc, if_neg (by simp only [World.size_alloc]; omega)]
         rw [blk_alloc, if_pos (by simp only [World.size_alloc])]
         done)
      | (unfold free
         repeat rw [heap_alloc, if_neg (by simp only [World.size_alloc]; omega)]
         rw [heap_alloc, if_pos (by simp only [World.size_alloc])]
         rfl)
  intro V1 hV1
  try simp only [World.size_alloc]
  obtain ⟨b4, e_b4⟩ : ∃ b, b = W.heap.size := ⟨_, rfl⟩
  obtain ⟨b6, e_b6⟩ : ∃ b, b = W.heap.size + 1 := ⟨_, rfl⟩
  rw [← e_b6] at hV1 ⊢
  rw [← e_b4] at hV1 ⊢
  have hn_b4 : W.heap.size ≤ b4 := by omega
  have n_b4_b6 : ¬ b4 = b6 := by omega
  have n_b6_b4 : ¬ b6 = b4 := by omega
  have hn_b6 : W.heap.size ≤ b6 := by omega
  clear e_b4 e_b6
  obtain ⟨hx1, hb4, hf4, hb6, hf6⟩ := hV1
  obtain ⟨O1, hO1⟩ : ∃ O1, O1 = lab O W.heap.size (.a 0 9) := ⟨_, rfl⟩
  have hF1 : Fr (fun _ => False) O W O1 V1 := by rw [hO1]; exact ⟨hx1.os, hx1.tape, hx1.output, hx1.size, fun k hk => lab_lt hk, fun k hk _ => hx1.block k hk⟩
  have hI1 : InsAt B O1 V1 g bi s := HH.out.fr hF1 (fun _ _ h => h) (fun h => h)
  have HI0 : Hid (∃ O', Fr (isS g) O W O' V1 ∧ InsAt B O' V1 g bi ⟨s.p, nmS s.N args 0, s.R, s.U, s.live⟩ ∧ (∀ c', c' < 0 → nmC s.N args c' = 0) ∧ blk V1 b4 = some (arr i64v (mkT (nmV s.N args) 0)) ∧ free V1 b4 = true ∧ blk V1 b6 = some (arr i64v (mkT (nmV s.N args) 0)) ∧ free V1 b6 = true ∧ O' b4 = .a 0 9 ∧ O' b6 = .a 0 9) := ⟨O1, hF1.mono (fun _ h => h.elim), hI1, fun c h => absurd h (Nat.not_lt_zero _), hb4, hf4, hb6, hf6, by rw [hO1]; exact lab_ge hn_b4, by rw [hO1]; exact lab_ge hn_b6⟩
  clear hx1 hb4 hf4 hb6 hf6 hO1 hI1 hF1
  refine wp_loop_f 36 (itnI B O W g bi b4 b6 aa an ac s args) (fun f _ => an - (intOf (f 7)).toNat) rfl ⟨rfl, rfl, rfl, rfl, 0, by omega, rfl, HI0⟩ ?_
  clear HI0
  intro F V hrel
  obtain ⟨f0, f1, f4, f6, c, hc, f7, HV⟩ := hrel
  have H7 := hid_of f7
  rw [frame36i, f0, f1, f4, f6, f7]
  clear f0 f1 f4 f6 f7
  obtain ⟨O2, hF2, hI2, hz2, hb4, hf4, hb6, hf6, o4, o6⟩ := HV.out
  by_cases hin : c < an
  · have hin' : (c : Int) < (an : Int) := by omega
    have h4 : c < 4 := by omega
    have h3 : c ≤ 3 := by omega
    have c0 : (0 : Int) ≤ (c : Int) := by omega
    have c1 : (c : Int) < 4 := by omega
    have c2 : ((c : Int)).toNat = c := by omega
    obtain ⟨nm, hnm⟩ : ∃ nm, args[c]? = some nm := ⟨_, List.getElem?_eq_getElem (by rw [HAL.out]; exact hin)⟩
    have hac := HA.out.grow (core_fr hF2 (isS_no g))
    obtain ⟨bs, Cs, s1, s2, s3, s4⟩ := str_at hac hnm
    subst s1
    obtain ⟨s2', s2o⟩ := core_blk s2
    obtain ⟨CI, bst, be, A, hm⟩ := hI2
    have hbi := hm.cell
    have ci4 := hm.ic.c4
    have cl : 4 < CI.length := by rw [hm.ic.len]; omega
    have hgd : args.getD c [] = nm := by rw [List.getD_eq_getElem?_getD, hnm]; rfl
    have hin2 := intern_any (hm.st.ext (extd V)) (by have := hF2.size; show B ≤ V.heap.size; omega) (nmS_len HN.out args c) nm
    have e1 : (internF (nmS s.N args c) nm).1 = nmV s.N args c := by unfold nmV; rw [hgd]
    have e2 : (internF (nmS s.N args c) nm).2.1 = nmC s.N args c := by unfold nmC; rw [hgd]
    have e3 : (internF (nmS s.N args c) nm).2.2 = nmS s.N args (c + 1) := by show _ = (internF _ _).2.2; rw [hgd]
    dsimp only at hin2
    rw [e1, e2, e3] at hin2
    have HSX : Hid (∀ V' O', Fr (isS g) O2 V.drew O' V' → blk V' bi = some CI ∧ blk V' bs = some Cs) := fun V' O' hf => ⟨hf.blk (W := V.drew) hbi (by rw [hm.own]; exact not_isS g), hf.blk (W := V.drew) s2' (by rw [s2o]; exact isS_no g)⟩
    have HF2 := hid_of hF2
    have HMM := hid_of (hm.ext (extd V))
    have HZ2 := hid_of hz2
    have HBB : Hid (blk V.drew b4 = some (arr i64v (mkT (nmV s.N args) 0)) ∧ free V.drew b4 = true ∧ blk V.drew b6 = some (arr i64v (mkT (nmV s.N args) c)) ∧ free V.drew b6 = true ∧ O2 b4 = .a 0 9 ∧ O2 b6 = .a 0 9) := ⟨hb4, hf4, hb6, hf6, o4, o6⟩
    obtain ⟨vc, hvc⟩ : ∃ vc, vc = nmV s.N args c := ⟨_, rfl⟩
    obtain ⟨cc, hcc⟩ : ∃ cc, cc = nmC s.N args c := ⟨_, rfl⟩
    rw [← hvc, ← hcc] at hin2
    have HVC := hid_of hvc
    have HCC := hid_of hcc
    clear HV hF2 hm hz2 hb4 hf4 hb6 hf6 o4 o6 hac s2 s2o hnm hgd e1 e2 e3 hvc hcc
    go_upto_region 5 with fail
    refine wp_region_held_drew (S := fun W' => blk W' bi = some CI ∧ blk W' bs = some Cs) (by kernel_rfl) ⟨hbi, s2'⟩ (fun hHeld => ?_)
    refine wpAnyH_take (i := 0) (oi := ⟨_, _, _, _, _, _⟩) (v := ?_) rfl (by kernel_rfl) (by kernel_rfl) (by kernel_rfl) (fun _ _ _ h => h) (Or.inl ⟨by rfl, ?_⟩) (by assumption) ?_
    rotate_left 1
    · intro W' hSw
      obtain ⟨hS1, hS2⟩ := hSw
      go_simp
      try with_reducible rfl
    try simp only [Act.put, List.setIfInBounds_toArray, List.set_cons_zero, List.set_cons_succ]
    refine wpAnyH_take (i := 1) (oi := ⟨_, _, _, _, _, _⟩) (v := ?_) rfl (by kernel_rfl) (by kernel_rfl) (by kernel_rfl) (fun _ _ _ h => h) (Or.inl ⟨by rfl, ?_⟩) (by assumption) ?_
    rotate_left 1
    · intro W' hSw
      obtain ⟨hS1, hS2⟩ := hSw
      go_simp
      try with_reducible rfl
    try simp only [Act.put, List.setIfInBounds_toArray, List.set_cons_zero, List.set_cons_succ]
    refine wpAnyH_take (i := 2) (oi := ⟨_, _, _, _, _, _⟩) (v := ?_) rfl (by kernel_rfl) (by kernel_rfl) (by kernel_rfl) (fun _ _ _ h => h) (Or.inl ⟨by rfl, ?_⟩) (by assumption) ?_
    rotate_left 1
    · intro W' hSw
      obtain ⟨hS1, hS2⟩ := hSw
      go_simp
      try with_reducible rfl
    try simp only [Act.put, List.setIfInBounds_toArray, List.set_cons_zero, List.set_cons_succ]
    refine wpAnyH_take (i := 3) (oi := ⟨_, _, _, _, _, _⟩) (v := ?_) rfl (by kernel_rfl) (by kernel_rfl) (by kernel_rfl) (fun _ _ _ h => h) (Or.inl ⟨by rfl, ?_⟩) (by assumption) ?_
    rotate_left 1
    · intro W' hSw
      obtain ⟨hS1, hS2⟩ := hSw
      go_simp
      try with_reducible rfl
    try simp only [Act.put, List.setIfInBounds_toArray, List.set_cons_zero, List.set_cons_succ]
    refine wpAnyH_take (i := 4) (oi := ⟨_, _, _, _, _, _⟩) (v := ?_) rfl (by kernel_rfl) (by kernel_rfl) (by kernel_rfl) (fun _ _ _ h => h) (Or.inl ⟨by rfl, ?_⟩) (by assumption) ?_
    rotate_left 1
    · intro W' hSw
      obtain ⟨hS1, hS2⟩ := hSw
      go_simp
      try with_reducible rfl
    try simp only [Act.put, List.setIfInBounds_toArray, List.set_cons_zero, List.set_cons_succ]
    refine wpAnyH_take (i := 5) (oi := ⟨_, _, _, _, _, _⟩) (v := ?_) rfl (by kernel_rfl) (by kernel_rfl) (by kernel_rfl) (fun _ _ _ h => h) (Or.inl ⟨by rfl, ?_⟩) (by assumption) ?_
    rotate_left 1
    · intro W' hSw
      obtain ⟨hS1, hS2⟩ := hSw
      go_simp
      try with_reducible rfl
    try simp only [Act.put, List.setIfInBounds_toArray, List.set_cons_zero, List.set_cons_succ]
    refine wpAnyH_take (i := 6) (oi := ⟨_, _, _, _, _, _⟩) (v := ?_) rfl (by kernel_rfl) (by kernel_rfl) (by kernel_rfl) (fun _ _ _ h => h) (Or.inl ⟨by rfl, ?_⟩) (by assumption) ?_
    rotate_left 1
    · intro W' hSw
      obtain ⟨hS1, hS2⟩ := hSw
      go_simp
      try with_reducible rfl
    try simp only [Act.put, List.setIfInBounds_toArray, List.set_cons_zero, List.set_cons_succ]
    refine wpAnyH_take (i := 7) (oi := ⟨_, _, _, _, _, _⟩) (v := ?_) rfl (by kernel_rfl) (by kernel_rfl) (by kernel_rfl) (fun _ _ _ h => h) (Or.inl ⟨by rfl, ?_⟩) (by assumption) ?_
    rotate_left 1
    · intro W' hSw
      obtain ⟨hS1, hS2⟩ := hSw
      go_simp
      try with_reducible rfl
    try simp only [Act.put, List.setIfInBounds_toArray, List.set_cons_zero, List.set_cons_succ]
    refine wpAnyH_ready (rs := [8]) (by kernel_rfl) (by simp) ?_
    refine AllReadyH.cons (o := ⟨_, _, _, _, _, _⟩) rfl (fun K' hK => ?_) AllReadyH.nil
    go_simp
    refine hin2.mono ?_
    rintro en V6 ⟨rfl, O6, hF6, hS6⟩
    dsimp only
    refine hK.out _ _ (HSX.out _ _ hF6) (fun hHeld => ?_)
    clear hK K'
    try simp only [Act.put, List.setIfInBounds_toArray, List.set_cons_zero, List.set_cons_succ]
    refine wpAnyH_take (i := 9) (oi := ⟨_, _, _, _, _, _⟩) (v := ?_) rfl (by kernel_rfl) (by kernel_rfl) (by kernel_rfl) (fun _ _ _ h => h) (Or.inl ⟨by rfl, ?_⟩) (by assumption) ?_
    rotate_left 1
    · intro W' hSw
      obtain ⟨hS1, hS2⟩ := hSw
      go_simp
      try with_reducible rfl
    try simp only [Act.put, List.setIfInBounds_toArray, List.set_cons_zero, List.set_cons_succ]
    refine wpAnyH_take (i := 10) (oi := ⟨_, _, _, _, _, _⟩) (v := ?_) rfl (by kernel_rfl) (by kernel_rfl) (by kernel_rfl) (fun _ _ _ h => h) (Or.inl ⟨by rfl, ?_⟩) (by assumption) ?_
    rotate_left 1
    · intro W' hSw
      obtain ⟨hS1, hS2⟩ := hSw
      go_simp
      try with_reducible rfl
    try simp only [Act.put, List.setIfInBounds_toArray, List.set_cons_zero, List.set_cons_succ]
    refine wpAnyH_take (i := 11) (oi := ⟨_, _, _, _, _, _⟩) (v := ?_) rfl (by kernel_rfl) (by kernel_rfl) (by kernel_rfl) (fun _ _ _ h => h) (Or.inl ⟨by rfl, ?_⟩) (by assumption) ?_
    rotate_left 1
    · intro W' hSw
      obtain ⟨hS1, hS2⟩ := hSw
      go_simp
      try with_reducible rfl
    try simp only [Act.put, List.setIfInBounds_toArray, List.set_cons_zero, List.set_cons_succ]
    refine wpAnyH_take (i := 12) (oi := ⟨_, _, _, _, _, _⟩) (v := ?_) rfl (by kernel_rfl) (by kernel_rfl) (by kernel_rfl) (fun _ _ _ h => h) (Or.inl ⟨by rfl, ?_⟩) (by assumption) ?_
    rotate_left 1
    · intro W' hSw
      obtain ⟨hS1, hS2⟩ := hSw
      go_simp
      try with_reducible rfl
    try simp only [Act.put, List.setIfInBounds_toArray, List.set_cons_zero, List.set_cons_succ]
    refine wpAnyH_take (i := 13) (oi := ⟨_, _, _, _, _, _⟩) (v := ?_) rfl (by kernel_rfl) (by kernel_rfl) (by kernel_rfl) (fun _ _ _ h => h) (Or.inl ⟨by rfl, ?_⟩) (by assumption) ?_
    rotate_left 1
    · intro W' hSw
      obtain ⟨hS1, hS2⟩ := hSw
      go_simp
      try with_reducible rfl
    try simp only [Act.put, List.setIfInBounds_toArray, List.set_cons_zero, List.set_cons_succ]
    refine wpAnyH_done (by kernel_rfl) ?_ _
    obtain ⟨q4, q4f, q6, q6f, qo4, qo6⟩ := HBB.out
    have hb4 : blk V6 b4 = some (arr i64v (mkT (nmV s.N args) 0)) := hF6.blk q4 (by rw [qo4]; exact scr_S g)
    have hf4 : free V6 b4 = true := hF6.free q4 q4f (by rw [qo4]; exact scr_S g)
    have hb6 : blk V6 b6 = some (arr i64v (mkT (nmV s.N args) c)) := hF6.blk q6 (by rw [qo6]; exact scr_S g)
    have hf6 : free V6 b6 = true := hF6.free q6 q6f (by rw [qo6]; exact scr_S g)
    have ho4 : O6 b4 = .a 0 9 := (hF6.keep b4 (blk_lt q4)).trans qo4
    have ho6 : O6 b6 = .a 0 9 := (hF6.keep b6 (blk_lt q6)).trans qo6
    have hm6 := HMM.out.sto hF6 hS6
    have hF61 := HF2.out.drew.trans hF6
    by_cases hz : cc = 0
    · have hzb : (cc != 0) = false := by simp [hz]
      have hput := mkT_put (nmV s.N args) h4 HVC.out
      obtain ⟨T1, hT1⟩ : ∃ T1, T1 = mkT (nmV s.N args) (c + 1) := ⟨_, rfl⟩
      obtain ⟨T0, hT0⟩ : ∃ T0, T0 = mkT (nmV s.N args) c := ⟨_, rfl⟩
      rw [← hT1, ← hT0] at hput
      rw [← hT0] at hb6
      have HV' : Hid (∃ O', Fr (isS g) O W O' (put V6 b6 (arr i64v T1)) ∧ InsAt B O' (put V6 b6 (arr i64v T1)) g bi ⟨s.p, nmS s.N args (c + 1), s.R, s.U, s.live⟩ ∧ (∀ c', c' < c + 1 → nmC s.N args c' = 0) ∧ blk (put V6 b6 (arr i64v T1)) b4 = some (arr i64v (mkT (nmV s.N args) 0)) ∧ free (put V6 b6 (arr i64v T1)) b4 = true ∧ blk (put V6 b6 (arr i64v T1)) b6 = some (arr i64v (mkT (nmV s.N args) (c + 1))) ∧ free (put V6 b6 (arr i64v T1)) b6 = true ∧ O' b4 = .a 0 9 ∧ O' b6 = .a 0 9) := by
        refine ⟨O6, hF61.put_new hn_b6 _, InsAt.scr ⟨CI, bst, be, A, hm6⟩ ho6 _, fun c' h9 => ?_, by rw [blk_put, if_neg n_b4_b6]; exact hb4, by rw [free_put]; exact hf4, by rw [blk_put, if_pos rfl, hb6, hT1]; rfl, by rw [free_put]; exact hf6, ho4, ho6⟩
        by_cases h8 : c' = c
        · subst h8; rw [← HCC.out]; exact hz
        · exact HZ2.out c' (by omega)
      clear HSX HF2 HMM HZ2 HBB q4 q4f q6 q6f qo4 qo6 hb4 hf4 ho4 ho6 hm6 hF61 hF6 hS6 hT0 hT1 hin2 hbi s2'
      subst hz
      go_wp2_with fail
      refine ⟨rfl, rfl, ⟨rfl, rfl, rfl, rfl, c + 1, by omega, ?_, HV'⟩, ?_⟩
      · show Value.int .i64 _ = _
        go_num
      · show an - (intOf (Value.int .i64 _)).toNat < an - (intOf (F 7)).toNat
        rw [H7.out]
        simp [intOf]; omega
    · have hzb : (cc != 0) = true := by simp [hz]
      obtain ⟨T0, hT0⟩ : ∃ T0, T0 = mkT (nmV s.N args) 0 := ⟨_, rfl⟩
      rw [← hT0] at hb4
      have HP : Hid (Q (.returned (.tuple #[.agg (arr i64v (Vector.replicate 4 (0 : Int))).toArray, .int .i64 cc])) (put V6 b4 (arr i64v (Vector.replicate 4 (0 : Int))))) := by
        show Q _ _
        rw [HQ.out]
        refine ⟨O6, hF61.put_new hn_b4 _, .inr ⟨c, by rw [HAL.out]; exact hin, HZ2.out, by rw [← HCC.out]; exact hz, by rw [HCC.out], InsAt.scr ⟨CI, bst, be, A, hm6⟩ ho4 _⟩⟩
      have HBR : Hid (blk (put V6 b4 (arr i64v (Vector.replicate 4 (0 : Int)))) b4 = some (arr i64v (Vector.replicate 4 (0 : Int)))) := by
        show blk _ _ = _
        rw [blk_put, if_pos rfl, hb4]; rfl
      clear HSX HF2 HMM HZ2 HBB q4 q4f q6 q6f qo4 qo6 ho4 ho6 hm6 hF61 hF6 hS6 hT0 hin2 hbi s2'
      go_wp2_with fail
      refine ret_cell_tmp (C := arr i64v (Vector.replicate 4 (0 : Int))) rfl rfl rfl HBR.out (by kernel_rfl) (by rw [length_arr]; kernel_rfl) rfl ?_
      exact HP.out
  · obtain rfl : c = an := by omega
    have hin' : ¬ ((c : Int) < (c : Int)) := by omega
    obtain ⟨T, hT⟩ : ∃ T, T = mkT (nmV s.N args) c := ⟨_, rfl⟩
    obtain ⟨T0, hT0⟩ : ∃ T0, T0 = mkT (nmV s.N args) 0 := ⟨_, rfl⟩
    have HP : Hid (Q (.returned (.tuple #[.agg (arr i64v T).toArray, .int .i64 0])) (put V b4 (arr i64v T))) := by
      show Q _ _
      rw [HQ.out, hT]
      refine ⟨O2, hF2.put_new hn_b4 _, .inl ⟨by rw [HAL.out]; exact hz2, by rw [HAL.out], ?_⟩⟩
      rw [HAL.out]; exact hI2.scr o4 _
    rw [← hT] at hb6
    rw [← hT0] at hb4
    have HBR : Hid (blk (put V b4 (arr i64v T)) b4 = some (arr i64v T)) := by
      show blk _ _ = _
      rw [blk_put, if_pos rfl, hb4]; rfl
    clear HV hT hT0 hF2 hI2 hz2 o4 o6
    go_wp2_with fail
    refine ret_cell_tmp (C := arr i64v T) rfl rfl rfl HBR.out (by kernel_rfl) (by rw [length_arr]; kernel_rfl) rfl ?_
    exact HP.out
end Go.Proofs.Qxb6500787aGreat
