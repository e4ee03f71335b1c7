
import Derived.Test.Qxb6500787aGreatYa
import Derived.Test.Qxb6500787aGreatXi
import Derived.StillTailTactics
import Derived.Deep.QuietTactic
import Derived.BigQuiet
import Derived.Deep.RegionHeld
import Derived.Deep.CutRange
import Derived.Laws.ResultCell
import Derived.Laws.Rows
import Derived.DeepKeys
import Derived.DataBytes
import Derived.Laws.StructEq
import Derived.Laws.AppendOwn
import Derived.Laws.MakeOwn
import Derived.Lib.AppendStr
set_option linter.unusedSimpArgs false
set_option linter.unusedVariables false
namespace Go.Proofs.Qxb6500787aGreat
open Go.RowKit Go.Blk
attribute [local go_sem ↓] execOp_load execOp_store execOp_alloc
attribute [local go_sem] Tryz.ld26 Tryz.st26 Tryz.ld27 Tryz.st27 Tryz.ld28 Tryz.st28 Tryz.ld3 Tryz.st3 Tryz.ld29 Tryz.st29 Tryz.ld44 Tryz.st44 Tryz.ld4 Tryz.st4 Tryz.ld50 Tryz.st50 Tryz.ld32 Tryz.st32 Tryz.ld49 Tryz.st49 Tryz.ld68 Tryz.st68 Tryz.ld9 Tryz.st9 Tryz.ld40 Tryz.st40 Tryz.ld138 Tryz.st138 Tryz.ld139 Tryz.st139 Tryz.ld146 Tryz.st146 Tryz.ld183 Tryz.st183 Tryz.ld184 Tryz.st184 Tryz.ld192 Tryz.st192 Tryz.ld195 Tryz.st195 Tryz.ld217 Tryz.st217 Tryz.ld159 Tryz.st159 Tryz.ld142 Tryz.st142 Tryz.ld2 Tryz.st2 Tryz.ld5 Tryz.st5 Tryz.ld12 Tryz.st12 Tryz.ld21 Tryz.st21 Tryz.ld22 Tryz.st22 Tryz.ld24 Tryz.st24 Tryz.ld58 Tryz.st58 Tryz.ld97 Tryz.st97 Tryz.ld101 Tryz.st101 Tryz.ld116 Tryz.st116 Tryz.ld121 Tryz.st121 Tryz.ld135 Tryz.st135 Tryz.ld136 Tryz.st136 Tryz.ld143 Tryz.st143 Tryz.ld148 Tryz.st148 Tryz.ld154 Tryz.st154 Tryz.ld173 Tryz.st173 Tryz.ld187 Tryz.st187 Tryz.ld222 Tryz.st222 Tryz.ld241 Tryz.st241 Tryz.ld248 Tryz.st248 Tryz.ld268 Tryz.st268 Tryz.ld272 Tryz.st272 Tryz.ld153 Tryz.st153 Tryz.ld255 Tryz.st255 Tryz.ld256 Tryz.st256 Tryz.ld129 Tryz.st129 Tryz.ld152 Tryz.st152 Tryz.ld31 Tryz.st31 Tryz.ld46 Tryz.st46 Tryz.ld52 Tryz.st52 Tryz.ld54 Tryz.st54 Tryz.ld60 Tryz.st60 Tryz.ld70 Tryz.st70 Tryz.ld74 Tryz.st74 Tryz.ld93 Tryz.st93 Tryz.ld141 Tryz.st141 Tryz.ld151 Tryz.st151 Tryz.ld170 Tryz.st170 Tryz.ld186 Tryz.st186 Tryz.ld189 Tryz.st189 Tryz.ld194 Tryz.st194 Tryz.ld197 Tryz.st197 Tryz.ld219 Tryz.st219 Tryz.ld224 Tryz.st224 Tryz.ld230 Tryz.st230 Tryz.ld235 Tryz.st235 Tryz.ld243 Tryz.st243 Tryz.ld247 Tryz.st247 Tryz.ld252 Tryz.st252 Tryz.ld258 Tryz.st258 Tryz.al153 Tryz.al255 Tryz.al256 Tryz.al129 Tryz.al152 Tryz.al31 Tryz.al46 Tryz.al52 Tryz.al54 Tryz.al60 Tryz.al70 Tryz.al74 Tryz.al93 Tryz.al141 Tryz.al151 Tryz.al170 Tryz.al186 Tryz.al189 Tryz.al194 Tryz.al197 Tryz.al219 Tryz.al224 Tryz.al230 Tryz.al235 Tryz.al243 Tryz.al247 Tryz.al252 Tryz.al258
attribute [local go_sem] Request.length_enc Request.ok_enc Request.all_get Request.all_set Request.kind_get Request.kind_set Request.blob_get Request.blob_set Request.items_get Request.items_set Request.pred_get Request.pred_set Request.slots_get Request.slots_set Trace.length_enc Trace.ok_enc Trace.all_get Trace.all_set Trace.op_get Trace.op_set Trace.calls_get Trace.calls_set Item.length_enc Item.ok_enc Item.all_get Item.all_set Item.del_get Item.del_set Item.pred_get Item.pred_set Item.args_get Item.args_set Reply.length_enc Reply.ok_enc Reply.all_get Reply.all_set Reply.code_get Reply.code_set Reply.kind_get Reply.kind_set Reply.index_get Reply.index_set Reply.yes_get Reply.yes_set Reply.preds_get Reply.preds_set Reply.rules_get Reply.rules_set Reply.arity_get Reply.arity_set Reply.rows_get Reply.rows_set Reply.fact_get Reply.fact_set Reply.fact_del_get Reply.fact_del_set Reply.fact_pred_get Reply.fact_pred_set Reply.fact_args_get Reply.fact_args_set GEntry.length_enc GEntry.ok_enc GEntry.all_get GEntry.all_set GEntry.seq_get GEntry.seq_set GEntry.kind_get GEntry.kind_set GEntry.code_get GEntry.code_set GOp.length_enc GOp.ok_enc GOp.all_get GOp.all_set GOp.kind_get GOp.kind_set GOp.raw_get GOp.raw_set Reader.length_enc Reader.ok_enc Reader.all_get Reader.all_set Reader.buf_get Reader.buf_set Reader.at__get Reader.at__set Slot.length_enc Slot.ok_enc Slot.all_get Slot.all_set Slot.bound_get Slot.bound_set Slot.name_get Slot.name_set Session.length_enc Session.ok_enc Session.all_get Session.all_set Session.svc_get Session.svc_set Session.buf_get Session.buf_set Session.closed_get Session.closed_set GProgram.length_enc GProgram.ok_enc GProgram.all_get GProgram.all_set GProgram.pool_get GProgram.pool_set GProgram.preds_get GProgram.preds_set GProgram.rules_get GProgram.rules_set GProgram.strata_get GProgram.strata_set PredInfo.length_enc PredInfo.ok_enc PredInfo.all_get PredInfo.all_set PredInfo.arity_get PredInfo.arity_set PredInfo.base_get PredInfo.base_set PredInfo.stratum_get PredInfo.stratum_set Change.length_enc Change.ok_enc Change.all_get Change.all_set Change.del_get Change.del_set Change.pred_get Change.pred_set Change.t_get Change.t_set Store.length_enc Store.ok_enc Store.all_get Store.all_set Store.names_get Store.names_set Store.arity_get Store.arity_set Store.rows_get Store.rows_set Src.length_enc Src.ok_enc Src.all_get Src.all_set Src.b_get Src.b_set Src.at__get Src.at__set Atom.length_enc Atom.ok_enc Atom.all_get Atom.all_set Atom.pred_get Atom.pred_set Atom.args_get Atom.args_set GRule.length_enc GRule.ok_enc GRule.all_get GRule.all_set GRule.head_get GRule.head_set GRule.body_get GRule.body_set GRule.head_pred_get GRule.head_pred_set GRule.head_args_get GRule.head_args_set Cert.length_enc Cert.ok_enc Cert.all_get Cert.all_set Cert.names_get Cert.names_set Cert.nodes_get Cert.nodes_set Fact.length_enc Fact.ok_enc Fact.all_get Fact.all_set Fact.pred_get Fact.pred_set Fact.t_get Fact.t_set Literal.length_enc Literal.ok_enc Literal.all_get Literal.all_set Literal.neg_get Literal.neg_set Literal.atom_get Literal.atom_set Literal.atom_pred_get Literal.atom_pred_set Literal.atom_args_get Literal.atom_args_set Engine.length_enc Engine.ok_enc Engine.all_get Engine.all_set Engine.prog_get Engine.prog_set Engine.st_get Engine.st_set SrcCertm.length_enc SrcCertm.ok_enc SrcCertm.all_get SrcCertm.all_set SrcCertm.b_get SrcCertm.b_set SrcCertm.at__get SrcCertm.at__set GNode.length_enc GNode.ok_enc GNode.all_get GNode.all_set GNode.rule_get GNode.rule_set GNode.pred_get GNode.pred_set GNode.vals_get GNode.vals_set GNode.refs_get GNode.refs_set Term.length_enc Term.ok_enc Term.all_get Term.all_set Term.var_get Term.var_set Term.n_get Term.n_set Env.length_enc Env.ok_enc Env.all_get Env.all_set Env.val_get Env.val_set Env.set_get Env.set_set
attribute [local go_sem] size_put size_ext blk_put free_put blk_alloc free_alloc blk_drew free_drew blk_ext free_ext lookOr_some putOr_some segAt_some cellAt_some storeIn_some put_put put_alloc_new length_arr ok_arr_u8 ok_arr_u32 ok_arr_u64 ok_arr_i64 ok_arr_sl cellsV_agg cellsV_int cellsV_bool cellsV_string cellsV_pointer cellsV_slice cellsV_sl ok_int ok_bool ok_string ok_pointer ok_slice ok_sl toList_arr seg_arr set_arr nth_splice nth_splice0 seg_splice seg_splice0 splice_splice splice_splice0 length_splice_if
attribute [local go_sem ↓] execOp_box
attribute [local go_sem] box_run nth_arr_u8 put_arr_u8 blk_drewN free_drewN put_drewN blk_raw free_raw
theorem lab_lab (O : Own) {m n : Nat} (h : m ≤ n) (l : Lab) : lab (lab O m l) n l = lab O m l := by
  funext k
  by_cases h1 : k < n
  · rw [lab_lt h1]
  · rw [lab_ge (by omega), lab_ge (by omega)]
/-- A row of bytes under a label. -/
def RB (B : Nat) (O : Own) (l : Lab) (W : World) (a : Option Addr) (n c : Nat) (xs : List UInt8) : Prop := RowL B O l W 5 1 (.slice a n c) xs.length (bv xs)
theorem RB.bs {B : Nat} {O : Own} {l : Lab} {W : World} {a : Option Addr} {n c : Nat} {xs : List UInt8} (h : RB B O l W a n c xs) : Bs W a n xs ∧ n ≤ c ∧ c ≤ maxLen := bs_own h.1
theorem RB.nil (B : Nat) (O : Own) (l : Lab) (W : World) : RB B O l W none 0 0 [] := RowL.nil _ _ _ _ _ _
theorem RB.cut0 {B : Nat} {O : Own} {l : Lab} {W : World} {a : Option Addr} {n c : Nat} {xs : List UInt8} (h : RB B O l W a n c xs) : RB B O l W a 0 c [] := by
  obtain ⟨⟨h1, h2 | ⟨g, cap, cur, e1, e2, e3, e4, e5, e6, e7⟩⟩, h3⟩ := h
  · have e := h2.1
    injection e with ea en ec
    subst ea en ec
    exact RB.nil _ _ _ _
  · injection e1 with ea en ec
    subst ea ec
    exact ⟨⟨rfl, .inr ⟨g, c, cur, rfl, e2, e3, Nat.zero_le _, e5, e6, by simp [bv]⟩⟩, fun k hk => h3 k hk⟩
theorem RB.fr {L : Lab → Prop} {B : Nat} {O O' : Own} {l : Lab} {W W' : World} {a : Option Addr} {n c : Nat} {xs : List UInt8} (h : RB B O l W a n c xs) (hf : Fr L O W O' W') (hl : ¬ L l) : RB B O' l W' a n c xs := RowL.fr h hf hl
theorem RB.kp {B : Nat} {O O' : Own} {l : Lab} {W W' : World} {a : Option Addr} {n c : Nat} {xs : List UInt8} (h : RB B O l W a n c xs) (hl : kept l) (hK : Kp O W O' W') : RB B O' l W' a n c xs := h.keep (fun k hk ho => by
  obtain ⟨e1, e2⟩ := hK.keep k hk (by rw [ho]; exact hl)
  exact ⟨e2, e1⟩)
theorem app_nil27 {B : Nat} {W : World} {ty : TypeId} {v : Value} {xs : List UInt8} {sp : Option Addr} {c : Nat} (h : W.ownsRow B 5 1 v xs.length (bv xs)) : (Builtin.append_ #[31, 31] ty #[v, .slice sp 0 c]).run Tryz.prog W = .ok v W := by
  obtain ⟨i, z, hi, hz, hsz, hby, hzc⟩ := info5
  have hl0 : ∀ (x : Addr), (loadCells x 0).run Tryz.prog W = .ok #[] W := fun x => by simpa using run_loadCells_list (P := Tryz.prog) W x [] (by simp)
  obtain ⟨_, h | h⟩ := h
  · rw [h.1]
    cases sp <;> simp [Builtin.append_, run_underlying Tryz.underlying31, sizeOf, typeInfo, hi, hsz, Builtin.lenOf, Builtin.firstCells, hl0, storeCells]
  · obtain ⟨g, cap, cur, h1, _, h2, h3, h4, h5, h6⟩ := h
    rw [h1]
    cases sp <;> simp [Builtin.append_, run_underlying Tryz.underlying31, sizeOf, typeInfo, hi, hsz, Builtin.lenOf, Builtin.firstCells, h3, hl0, storeCells]
/-- Bytes appended to a row under a label. -/
theorem appBL {B : Nat} {O : Own} {l : Lab} {W : World} (ty : TypeId) {a : Option Addr} {n c : Nat} {xs : List UInt8} (h : RB B O l W a n c xs) {sp : Option Addr} {m : Nat} {ys : List UInt8} (cs : Nat) (hs : Bs W sp m ys) (hB : B ≤ W.heap.size) (hl : xs.length + ys.length ≤ 100000000000) : ∃ a' c' W', (Builtin.append_ #[31, 31] ty #[.slice a n c, .slice sp m cs]).run Tryz.prog W = .ok (.slice a' (n + m) c') W' ∧ RB B (lab O W.heap.size l) l W' a' (n + m) c' (xs ++ ys) ∧ Fr (fun y => y = l) O W (lab O W.heap.size l) W' := by
  obtain ⟨i, z, hi, hz, hsz, hby, hzc⟩ := info5
  have hn : n = xs.length := (bs_own h.1).1.1.symm
  have hm : m = ys.length := hs.1.symm
  subst hm
  by_cases h0 : ys = []
  · subst h0
    have hF : Fr (fun y => y = l) O W (lab O W.heap.size l) W := ⟨rfl, rfl, rfl, Nat.le_refl _, fun k hk => lab_lt hk, fun _ _ _ => rfl⟩
    have h9 := h
    refine ⟨a, c, W, ?_, ?_, hF⟩
    · exact app_nil27 h.1
    · rw [List.append_nil]
      exact h.keep (fun k hk _ => ⟨rfl, lab_lt hk⟩)
  · have hpos : 0 < ys.length := List.length_pos_iff.2 h0
    obtain ⟨b, o, C, rfl, hC, hfit, hseg⟩ := hs.2.1 (by omega)
    have hnews : ∀ j u, (bv ys)[j]? = some u → W.cell? ((⟨b, o, none⟩ : Addr).add j) = some u := by
      intro j u hu
      rw [add_addr, cell_blk hC]
      rw [← hseg, seg_nth] at hu
      split at hu
      · exact hu
      · simp at hu
    obtain ⟨v', W', hr, h1, h2, _⟩ := run_append_own (P := Tryz.prog) W B 31 ty 5 i z 1 1 Tryz.underlying31 hi hz hsz hby hzc (by decide) (.slice a n c) xs.length (bv xs) h.1 ⟨b, o, none⟩ ys.length cs (bv ys) (by rw [length_bv]; omega) hnews (one_bv ys) (by simp only [maxLen]; omega) (by omega) hB
    have hbk := append_block_gen (P := Tryz.prog) W B 31 ty 5 i z 1 1 Tryz.underlying31 hi hz hsz hby hzc (by decide) (.slice a n c) xs.length (bv xs) h.1 ⟨b, o, none⟩ ys.length cs (bv ys) (by rw [length_bv]; omega) hnews (one_bv ys) (by simp only [maxLen]; omega) (by omega) v' W' hr
    have hlen : xs.length + ys.length = n + ys.length := by rw [hn]
    rw [hlen] at h1
    obtain ⟨a', c', rfl⟩ := row_val h1
    refine ⟨a', c', W', hr, ⟨?_, fun k hk => ?_⟩, ?_⟩
    · rw [List.length_append, bv_append, hlen]
      exact h1
    · rcases hbk with hbk | hbk
      · rw [hbk] at hk
        rw [lab_lt (row_at h.1 k hk).2.1]
        exact h.2 k hk
      · rw [hbk] at hk
        have : k = W.heap.size := (Option.some.inj hk).symm
        exact lab_ge (by omega)
    · refine ⟨h2.os, h2.tape, h2.output, h2.size, fun k hk => lab_lt hk, fun k hk hn => ?_⟩
      exact h2.block k hk (fun e1 => hn (h.2 k e1.symm))
/-- A reply with its length in front. -/
def frm (ys : List UInt8) : List UInt8 := [UInt8.ofNat (ys.length / 16777216), UInt8.ofNat (ys.length / 65536), UInt8.ofNat (ys.length / 256), UInt8.ofNat ys.length] ++ ys
attribute [local go_sem ↓] execOp_bslice
attribute [local go_sem] bslice27d
end Go.Proofs.Qxb6500787aGreat
