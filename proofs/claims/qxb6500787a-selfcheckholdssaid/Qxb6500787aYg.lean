import Derived.Test.Qxb6500787aYa
import Derived.Test.Qxb6500787aXi
import Derived.StillTailTactics
import Derived.Deep.QuietTactic
import Derived.BigQuiet
import Derived.Deep.RegionHeld
import Derived.Deep.CutRange
import Derived.Laws.ResultCell
import Derived.Laws.Rows
import Derived.DeepKeys
import Derived.DataBytes
import Derived.Laws.StructEq
import Derived.Laws.AppendOwn
import Derived.Laws.MakeOwn
import Derived.Lib.AppendStr
set_option linter.unusedSimpArgs false
set_option linter.unusedVariables false
namespace Go.Proofs.Qxb6500787a
open Go.RowKit Go.Blk
attribute [local go_sem ↓] execOp_load execOp_store execOp_alloc
attribute [local go_sem] Try.ld26 Try.st26 Try.ld27 Try.st27 Try.ld28 Try.st28 Try.ld3 Try.st3 Try.ld29 Try.st29 Try.ld44 Try.st44 Try.ld4 Try.st4 Try.ld50 Try.st50 Try.ld32 Try.st32 Try.ld49 Try.st49 Try.ld68 Try.st68 Try.ld9 Try.st9 Try.ld40 Try.st40 Try.ld138 Try.st138 Try.ld139 Try.st139 Try.ld146 Try.st146 Try.ld183 Try.st183 Try.ld184 Try.st184 Try.ld192 Try.st192 Try.ld195 Try.st195 Try.ld217 Try.st217 Try.ld159 Try.st159 Try.ld142 Try.st142 Try.ld2 Try.st2 Try.ld5 Try.st5 Try.ld12 Try.st12 Try.ld21 Try.st21 Try.ld22 Try.st22 Try.ld24 Try.st24 Try.ld58 Try.st58 Try.ld63 Try.st63 Try.ld97 Try.st97 Try.ld101 Try.st101 Try.ld116 Try.st116 Try.ld121 Try.st121 Try.ld135 Try.st135 Try.ld136 Try.st136 Try.ld143 Try.st143 Try.ld148 Try.st148 Try.ld154 Try.st154 Try.ld173 Try.st173 Try.ld187 Try.st187 Try.ld222 Try.st222 Try.ld241 Try.st241 Try.ld248 Try.st248 Try.ld268 Try.st268 Try.ld272 Try.st272 Try.ld153 Try.st153 Try.ld255 Try.st255 Try.ld256 Try.st256 Try.ld129 Try.st129 Try.ld152 Try.st152 Try.ld31 Try.st31 Try.ld46 Try.st46 Try.ld52 Try.st52 Try.ld54 Try.st54 Try.ld60 Try.st60 Try.ld70 Try.st70 Try.ld74 Try.st74 Try.ld93 Try.st93 Try.ld119 Try.st119 Try.ld141 Try.st141 Try.ld151 Try.st151 Try.ld170 Try.st170 Try.ld186 Try.st186 Try.ld189 Try.st189 Try.ld194 Try.st194 Try.ld197 Try.st197 Try.ld219 Try.st219 Try.ld224 Try.st224 Try.ld230 Try.st230 Try.ld235 Try.st235 Try.ld243 Try.st243 Try.ld247 Try.st247 Try.ld252 Try.st252 Try.ld258 Try.st258 Try.al153 Try.al255 Try.al256 Try.al129 Try.al152 Try.al31 Try.al46 Try.al52 Try.al54 Try.al60 Try.al70 Try.al74 Try.al93 Try.al119 Try.al141 Try.al151 Try.al170 Try.al186 Try.al189 Try.al194 Try.al197 Try.al219 Try.al224 Try.al230 Try.al235 Try.al243 Try.al247 Try.al252 Try.al258
attribute [local go_sem] Request.length_enc Request.ok_enc Request.all_get Request.all_set Request.kind_get Request.kind_set Request.blob_get Request.blob_set Request.items_get Request.items_set Request.pred_get Request.pred_set Request.slots_get Request.slots_set Trace.length_enc Trace.ok_enc Trace.all_get Trace.all_set Trace.op_get Trace.op_set Trace.calls_get Trace.calls_set Item.length_enc Item.ok_enc Item.all_get Item.all_set Item.del_get Item.del_set Item.pred_get Item.pred_set Item.args_get Item.args_set Reply.length_enc Reply.ok_enc Reply.all_get Reply.all_set Reply.code_get Reply.code_set Reply.kind_get Reply.kind_set Reply.index_get Reply.index_set Reply.yes_get Reply.yes_set Reply.preds_get Reply.preds_set Reply.rules_get Reply.rules_set Reply.arity_get Reply.arity_set Reply.rows_get Reply.rows_set Reply.fact_get Reply.fact_set Reply.fact_del_get Reply.fact_del_set Reply.fact_pred_get Reply.fact_pred_set Reply.fact_args_get Reply.fact_args_set GEntry.length_enc GEntry.ok_enc GEntry.all_get GEntry.all_set GEntry.seq_get GEntry.seq_set GEntry.kind_get GEntry.kind_set GEntry.code_get GEntry.code_set GOp.length_enc GOp.ok_enc GOp.all_get GOp.all_set GOp.kind_get GOp.kind_set GOp.raw_get GOp.raw_set Reader.length_enc Reader.ok_enc Reader.all_get Reader.all_set Reader.buf_get Reader.buf_set Reader.at__get Reader.at__set Slot.length_enc Slot.ok_enc Slot.all_get Slot.all_set Slot.bound_get Slot.bound_set Slot.name_get Slot.name_set Session.length_enc Session.ok_enc Session.all_get Session.all_set Session.svc_get Session.svc_set Session.buf_get Session.buf_set Session.closed_get Session.closed_set GProgram.length_enc GProgram.ok_enc GProgram.all_get GProgram.all_set GProgram.pool_get GProgram.pool_set GProgram.preds_get GProgram.preds_set GProgram.rules_get GProgram.rules_set GProgram.strata_get GProgram.strata_set PredInfo.length_enc PredInfo.ok_enc PredInfo.all_get PredInfo.all_set PredInfo.arity_get PredInfo.arity_set PredInfo.base_get PredInfo.base_set PredInfo.stratum_get PredInfo.stratum_set Change.length_enc Change.ok_enc Change.all_get Change.all_set Change.del_get Change.del_set Change.pred_get Change.pred_set Change.t_get Change.t_set Store.length_enc Store.ok_enc Store.all_get Store.all_set Store.names_get Store.names_set Store.arity_get Store.arity_set Store.rows_get Store.rows_set Src.length_enc Src.ok_enc Src.all_get Src.all_set Src.b_get Src.b_set Src.at__get Src.at__set Atom.length_enc Atom.ok_enc Atom.all_get Atom.all_set Atom.pred_get Atom.pred_set Atom.args_get Atom.args_set GRule.length_enc GRule.ok_enc GRule.all_get GRule.all_set GRule.head_get GRule.head_set GRule.body_get GRule.body_set GRule.head_pred_get GRule.head_pred_set GRule.head_args_get GRule.head_args_set Cert.length_enc Cert.ok_enc Cert.all_get Cert.all_set Cert.names_get Cert.names_set Cert.nodes_get Cert.nodes_set Fact.length_enc Fact.ok_enc Fact.all_get Fact.all_set Fact.pred_get Fact.pred_set Fact.t_get Fact.t_set Literal.length_enc Literal.ok_enc Literal.all_get Literal.all_set Literal.neg_get Literal.neg_set Literal.atom_get Literal.atom_set Literal.atom_pred_get Literal.atom_pred_set Literal.atom_args_get Literal.atom_args_set Engine.length_enc Engine.ok_enc Engine.all_get Engine.all_set Engine.prog_get Engine.prog_set Engine.st_get Engine.st_set SrcCertm.length_enc SrcCertm.ok_enc SrcCertm.all_get SrcCertm.all_set SrcCertm.b_get SrcCertm.b_set SrcCertm.at__get SrcCertm.at__set GNode.length_enc GNode.ok_enc GNode.all_get GNode.all_set GNode.rule_get GNode.rule_set GNode.pred_get GNode.pred_set GNode.vals_get GNode.vals_set GNode.refs_get GNode.refs_set Term.length_enc Term.ok_enc Term.all_get Term.all_set Term.var_get Term.var_set Term.n_get Term.n_set Env.length_enc Env.ok_enc Env.all_get Env.all_set Env.val_get Env.val_set Env.set_get Env.set_set
attribute [local go_sem] size_put size_ext blk_put free_put blk_alloc free_alloc blk_drew free_drew blk_ext free_ext lookOr_some putOr_some segAt_some cellAt_some storeIn_some put_put put_alloc_new length_arr ok_arr_u8 ok_arr_u32 ok_arr_u64 ok_arr_i64 ok_arr_sl cellsV_agg cellsV_int cellsV_bool cellsV_string cellsV_pointer cellsV_slice cellsV_sl ok_int ok_bool ok_string ok_pointer ok_slice ok_sl toList_arr seg_arr set_arr nth_splice nth_splice0 seg_splice seg_splice0 splice_splice splice_splice0 length_splice_if
attribute [local go_sem ↓] execOp_box
attribute [local go_sem] box_run nth_arr_u8 put_arr_u8 blk_drewN free_drewN put_drewN blk_raw free_raw
theorem lab_lab (O : Own) {m n : Nat} (h : m ≤ n) (l : Lab) : lab (lab O m l) n l = lab O m l := by
  funext k
  by_cases h1 : k < n
  · rw [lab_lt h1]
  · rw [lab_ge (by omega), lab_ge (by omega)]
/-- A row of bytes under a label. -/
def RB (B : Nat) (O : Own) (l : Lab) (W : World) (a : Option Addr) (n c : Nat) (xs : List UInt8) : Prop := RowL B O l W 5 1 (.slice a n c) xs.length (bv xs)
theorem RB.bs {B : Nat} {O : Own} {l : Lab} {W : World} {a : Option Addr} {n c : Nat} {xs : List UInt8} (h : RB B O l W a n c xs) : Bs W a n xs ∧ n ≤ c ∧ c ≤ maxLen := bs_own h.1
theorem RB.nil (B : Nat) (O : Own) (l : Lab) (W : World) : RB B O l W none 0 0 [] := RowL.nil _ _ _ _ _ _
theorem RB.cut0 {B : Nat} {O : Own} {l : Lab} {W : World} {a : Option Addr} {n c : Nat} {xs : List UInt8} (h : RB B O l W a n c xs) : RB B O l W a 0 c [] := by
  obtain ⟨⟨h1, h2 | ⟨g, cap, cur, e1, e2, e3, e4, e5, e6, e7⟩⟩, h3⟩ := h
  · have e := h2.1
    injection e with ea en ec
    subst ea en ec
    exact RB.nil _ _ _ _
  · injection e1 with ea en ec
    subst ea ec
    exact ⟨⟨rfl, .inr ⟨g, c, cur, rfl, e2, e3, Nat.zero_le _, e5, e6, by simp [bv]⟩⟩, fun k hk => h3 k hk⟩
theorem RB.fr {L : Lab → Prop} {B : Nat} {O O' : Own} {l : Lab} {W W' : World} {a : Option Addr} {n c : Nat} {xs : List UInt8} (h : RB B O l W a n c xs) (hf : Fr L O W O' W') (hl : ¬ L l) : RB B O' l W' a n c xs := RowL.fr h hf hl
theorem RB.kp {B : Nat} {O O' : Own} {l : Lab} {W W' : World} {a : Option Addr} {n c : Nat} {xs : List UInt8} (h : RB B O l W a n c xs) (hl : kept l) (hK : Kp O W O' W') : RB B O' l W' a n c xs := h.keep (fun k hk ho => by
  obtain ⟨e1, e2⟩ := hK.keep k hk (by rw [ho]; exact hl)
  exact ⟨e2, e1⟩)
theorem app_nil27 {B : Nat} {W : World} {ty : TypeId} {v : Value} {xs : List UInt8} {sp : Option Addr} {c : Nat} (h : W.ownsRow B 5 1 v xs.length (bv xs)) : (Builtin.append_ #[27, 27] ty #[v, .slice sp 0 c]).run Try.prog W = .ok v W := by
  obtain ⟨i, z, hi, hz, hsz, hby, hzc⟩ := info5
  have hl0 : ∀ (x : Addr), (loadCells x 0).run Try.prog W = .ok #[] W := fun x => by simpa using run_loadCells_list (P := Try.prog) W x [] (by simp)
  obtain ⟨_, h | h⟩ := h
  · rw [h.1]
    cases sp <;> simp [Builtin.append_, run_underlying Try.underlying27, sizeOf, typeInfo, hi, hsz, Builtin.lenOf, Builtin.firstCells, hl0, storeCells]
  · obtain ⟨g, cap, cur, h1, _, h2, h3, h4, h5, h6⟩ := h
    rw [h1]
    cases sp <;> simp [Builtin.append_, run_underlying Try.underlying27, sizeOf, typeInfo, hi, hsz, Builtin.lenOf, Builtin.firstCells, h3, hl0, storeCells]
/-- Bytes appended to a row under a label. -/
theorem appBL {B : Nat} {O : Own} {l : Lab} {W : World} (ty : TypeId) {a : Option Addr} {n c : Nat} {xs : List UInt8} (h : RB B O l W a n c xs) {sp : Option Addr} {m : Nat} {ys : List UInt8} (cs : Nat) (hs : Bs W sp m ys) (hB : B ≤ W.heap.size) (hl : xs.length + ys.length ≤ 100000000000) : ∃ a' c' W', (Builtin.append_ #[27, 27] ty #[.slice a n c, .slice sp m cs]).run Try.prog W = .ok (.slice a' (n + m) c') W' ∧ RB B (lab O W.heap.size l) l W' a' (n + m) c' (xs ++ ys) ∧ Fr (fun y => y = l) O W (lab O W.heap.size l) W' := by
  obtain ⟨i, z, hi, hz, hsz, hby, hzc⟩ := info5
  have hn : n = xs.length := (bs_own h.1).1.1.symm
  have hm : m = ys.length := hs.1.symm
  subst hm
  by_cases h0 : ys = []
  · subst h0
    have hF : Fr (fun y => y = l) O W (lab O W.heap.size l) W := ⟨rfl, rfl, rfl, Nat.le_refl _, fun k hk => lab_lt hk, fun _ _ _ => rfl⟩
    have h9 := h
    refine ⟨a, c, W, ?_, ?_, hF⟩
    · exact app_nil27 h.1
    · rw [List.append_nil]
      exact h.keep (fun k hk _ => ⟨rfl, lab_lt hk⟩)
  · have hpos : 0 < ys.length := List.length_pos_iff.2 h0
    obtain ⟨b, o, C, rfl, hC, hfit, hseg⟩ := hs.2.1 (by omega)
    have hnews : ∀ j u, (bv ys)[j]? = some u → W.cell? ((⟨b, o, none⟩ : Addr).add j) = some u := by
      intro j u hu
      rw [add_addr, cell_blk hC]
      rw [← hseg, seg_nth] at hu
      split at hu
      · exact hu
      · simp at hu
    obtain ⟨v', W', hr, h1, h2, _⟩ := run_append_own (P := Try.prog) W B 27 ty 5 i z 1 1 Try.underlying27 hi hz hsz hby hzc (by decide) (.slice a n c) xs.length (bv xs) h.1 ⟨b, o, none⟩ ys.length cs (bv ys) (by rw [length_bv]; omega) hnews (one_bv ys) (by simp only [maxLen]; omega) (by omega) hB
    have hbk := append_block_gen (P := Try.prog) W B 27 ty 5 i z 1 1 Try.underlying27 hi hz hsz hby hzc (by decide) (.slice a n c) xs.length (bv xs) h.1 ⟨b, o, none⟩ ys.length cs (bv ys) (by rw [length_bv]; omega) hnews (one_bv ys) (by simp only [maxLen]; omega) (by omega) v' W' hr
    have hlen : xs.length + ys.length = n + ys.length := by rw [hn]
    rw [hlen] at h1
    obtain ⟨a', c', rfl⟩ := row_val h1
    refine ⟨a', c', W', hr, ⟨?_, fun k hk => ?_⟩, ?_⟩
    · rw [List.length_append, bv_append, hlen]
      exact h1
    · rcases hbk with hbk | hbk
      · rw [hbk] at hk
        rw [lab_lt (row_at h.1 k hk).2.1]
        exact h.2 k hk
      · rw [hbk] at hk
        have : k = W.heap.size := (Option.some.inj hk).symm
        exact lab_ge (by omega)
    · refine ⟨h2.os, h2.tape, h2.output, h2.size, fun k hk => lab_lt hk, fun k hk hn => ?_⟩
      exact h2.block k hk (fun e1 => hn (h.2 k e1.symm))
/-- A reply with its length in front. -/
def frm (ys : List UInt8) : List UInt8 := [UInt8.ofNat (ys.length / 16777216), UInt8.ofNat (ys.length / 65536), UInt8.ofNat (ys.length / 256), UInt8.ofNat ys.length] ++ ys
attribute [local go_sem ↓] execOp_bslice
attribute [local go_sem] bslice27d
set_option maxRecDepth 20000 in
set_option maxHeartbeats 1000000 in
theorem putReply_any {B : Nat} {O : Own} {l : Lab} {W : World} {a : Option Addr} {n c : Nat} {xs : List UInt8} (h : RB B O l W a n c xs) (hB : B ≤ W.heap.size) {ra : Option Addr} {rn rc : Nat} {ys : List UInt8} (hr : Bs W ra rn ys) (hrl : ∀ b o, ra = some ⟨b, o, none⟩ → O b ≠ l) (hl : xs.length + ys.length ≤ 10000000000) : Calls Try.prog 59 #[.slice a n c, .slice ra rn rc] W fun e V => ∃ a' c', e = .returned (.slice a' (n + 4 + rn) c') ∧ RB B (lab O W.heap.size l) l V a' (n + 4 + rn) c' (xs ++ frm ys) ∧ Fr (fun y => y = l) O W (lab O W.heap.size l) V := by
  obtain ⟨E4, hE4⟩ : ∃ E4 : List UInt8, E4 = [UInt8.ofNat (ys.length / 16777216), UInt8.ofNat (ys.length / 65536), UInt8.ofNat (ys.length / 256), UInt8.ofNat ys.length] := ⟨_, rfl⟩
  have hrn : ys.length = rn := hr.1
  have hA : ∀ k, ((rn : Int) / (k : Nat) % 256) = w8 (UInt8.ofNat (rn / k)) := fun k => by
    unfold w8
    rw [UInt8.toNat_ofNat']
    omega
  obtain ⟨A4, hA4⟩ : ∃ A4 : Array Value, A4 = #[.int .u8 ((rn : Int) / 16777216 % 256), .int .u8 ((rn : Int) / 65536 % 256), .int .u8 ((rn : Int) / 256 % 256), .int .u8 ((rn : Int) % 256)] := ⟨_, rfl⟩
  have hA5 : A4.toList = bv E4 := by
    rw [hA4, hE4, hrn]
    show [Value.int .u8 ((rn : Int) / (16777216 : Nat) % 256), .int .u8 ((rn : Int) / (65536 : Nat) % 256), .int .u8 ((rn : Int) / (256 : Nat) % 256), .int .u8 ((rn : Int) % 256)] = _
    have h1 : (rn : Int) % 256 = w8 (UInt8.ofNat rn) := by
      unfold w8
      rw [UInt8.toNat_ofNat']
      omega
    rw [hA, hA, hA, h1]
    rfl
  have hx1 : W.Extends (W.alloc (.cells A4 5)) := extends_alloc (ext_Ext (Ext.refl _)) _
  have hF1 : Fr (fun y => y = l) O W (lab O W.heap.size l) (W.alloc (.cells A4 5)) := ⟨hx1.os, hx1.tape, hx1.output, hx1.size, fun k hk => lab_lt hk, fun k hk _ => hx1.block k hk⟩
  have hr1 : RB B (lab O W.heap.size l) l (W.alloc (.cells A4 5)) a n c xs := h.keep (fun k hk _ => ⟨hx1.block k hk, lab_lt hk⟩)
  have hb4 : Bs (W.alloc (.cells A4 5)) (some ⟨W.heap.size, 0, none⟩) 4 E4 := by
    refine ⟨by rw [hE4]; rfl, fun _ => ⟨W.heap.size, 0, A4.toList, rfl, by rw [blk_alloc, if_pos rfl], by rw [hA4]; show 0 + 4 ≤ 4; omega, ?_⟩, .inr ⟨_, _, rfl⟩⟩
    rw [hA5]
    unfold seg
    rw [List.drop_zero, List.take_of_length_le (by rw [length_bv, hE4]; show 4 ≤ 4; omega)]
  have hE4l : E4.length = 4 := by rw [hE4]; rfl
  obtain ⟨a2, c2, W2, hrun2, hr2, hF2⟩ := appBL 27 hr1 4 hb4 (Nat.le_trans hB hx1.size) (by omega)
  rw [lab_lab O hx1.size] at hr2 hF2
  have hys2 : Bs W2 ra rn ys := by
    refine ⟨hr.1, fun h0 => ?_, hr.2.2⟩
    obtain ⟨b, o, C, e1, e2, e3, e4⟩ := hr.2.1 h0
    refine ⟨b, o, C, e1, ?_, e3, e4⟩
    refine hF2.blk ((hx1.blk (blk_lt e2)).trans e2) ?_
    rw [lab_lt (blk_lt e2)]
    exact hrl b o e1
  obtain ⟨a3, c3, W3, hrun3, hr3, hF3⟩ := appBL 27 hr2 rc hys2 (Nat.le_trans hB (Nat.le_trans hx1.size hF2.size)) (by rw [List.length_append, hE4l]; omega)
  rw [lab_lab O (Nat.le_trans hx1.size hF2.size)] at hr3 hF3
  have HP : Hid (RB B (lab O W.heap.size l) l W3 a3 (n + 4 + rn) c3 (xs ++ frm ys) ∧ Fr (fun y => y = l) O W (lab O W.heap.size l) W3) := by
    refine ⟨?_, hF1.trans (hF2.trans hF3)⟩
    have e : xs ++ frm ys = xs ++ E4 ++ ys := by unfold frm; rw [← hE4, List.append_assoc]
    rw [e]; exact hr3
  rw [hA4] at hrun2
  clear hE4 hA hA4 hA5 hx1 hF1 hr1 hb4 hr2 hF2 hys2 hr3 hF3 h hr hrl hrn
  go_enter Try.func59, Try.ntmps59
  go_wp2_with (at_builtin; first | refine wpList_append_run rfl _ _ 27 rfl _ _ _ _ rfl rfl hrun2 ?_ | refine wpList_append_run rfl _ _ 27 rfl _ _ _ _ rfl rfl hrun3 ?_)
  go_ret
  exact ⟨_, _, rfl, HP.out⟩
end Go.Proofs.Qxb6500787a
