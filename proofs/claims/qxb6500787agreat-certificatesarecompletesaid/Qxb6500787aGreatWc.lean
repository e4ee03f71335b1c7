
import Derived.Test.Qxb6500787aGreatWb
import Derived.StillTailTactics
import Derived.Deep.QuietTactic
import Derived.BigQuiet
import Derived.Deep.RegionHeld
import Derived.Deep.CutRange
import Derived.Laws.ResultCell
import Derived.Laws.Rows
import Derived.DeepKeys
import Derived.DataBytes
import Derived.Laws.StructEq
import Derived.Laws.AppendOwn
import Derived.Laws.MakeOwn
import Derived.Lib.AppendStr
set_option linter.unusedSimpArgs false
set_option linter.unusedVariables false
namespace Go.Proofs.Qxb6500787aGreat
open Go.RowKit Go.Blk
attribute [local go_sem ↓] execOp_load execOp_store execOp_alloc
attribute [local go_sem] Tryz.ld26 Tryz.st26 Tryz.ld27 Tryz.st27 Tryz.ld28 Tryz.st28 Tryz.ld3 Tryz.st3 Tryz.ld29 Tryz.st29 Tryz.ld44 Tryz.st44 Tryz.ld4 Tryz.st4 Tryz.ld50 Tryz.st50 Tryz.ld32 Tryz.st32 Tryz.ld49 Tryz.st49 Tryz.ld68 Tryz.st68 Tryz.ld9 Tryz.st9 Tryz.ld40 Tryz.st40 Tryz.ld138 Tryz.st138 Tryz.ld139 Tryz.st139 Tryz.ld146 Tryz.st146 Tryz.ld183 Tryz.st183 Tryz.ld184 Tryz.st184 Tryz.ld192 Tryz.st192 Tryz.ld195 Tryz.st195 Tryz.ld217 Tryz.st217 Tryz.ld159 Tryz.st159 Tryz.ld142 Tryz.st142 Tryz.ld2 Tryz.st2 Tryz.ld5 Tryz.st5 Tryz.ld12 Tryz.st12 Tryz.ld21 Tryz.st21 Tryz.ld22 Tryz.st22 Tryz.ld24 Tryz.st24 Tryz.ld58 Tryz.st58 Tryz.ld97 Tryz.st97 Tryz.ld101 Tryz.st101 Tryz.ld116 Tryz.st116 Tryz.ld121 Tryz.st121 Tryz.ld135 Tryz.st135 Tryz.ld136 Tryz.st136 Tryz.ld143 Tryz.st143 Tryz.ld148 Tryz.st148 Tryz.ld154 Tryz.st154 Tryz.ld173 Tryz.st173 Tryz.ld187 Tryz.st187 Tryz.ld222 Tryz.st222 Tryz.ld241 Tryz.st241 Tryz.ld248 Tryz.st248 Tryz.ld268 Tryz.st268 Tryz.ld272 Tryz.st272 Tryz.ld153 Tryz.st153 Tryz.ld255 Tryz.st255 Tryz.ld256 Tryz.st256 Tryz.ld129 Tryz.st129 Tryz.ld152 Tryz.st152 Tryz.ld31 Tryz.st31 Tryz.ld46 Tryz.st46 Tryz.ld52 Tryz.st52 Tryz.ld54 Tryz.st54 Tryz.ld60 Tryz.st60 Tryz.ld70 Tryz.st70 Tryz.ld74 Tryz.st74 Tryz.ld93 Tryz.st93 Tryz.ld141 Tryz.st141 Tryz.ld151 Tryz.st151 Tryz.ld170 Tryz.st170 Tryz.ld186 Tryz.st186 Tryz.ld189 Tryz.st189 Tryz.ld194 Tryz.st194 Tryz.ld197 Tryz.st197 Tryz.ld219 Tryz.st219 Tryz.ld224 Tryz.st224 Tryz.ld230 Tryz.st230 Tryz.ld235 Tryz.st235 Tryz.ld243 Tryz.st243 Tryz.ld247 Tryz.st247 Tryz.ld252 Tryz.st252 Tryz.ld258 Tryz.st258 Tryz.al153 Tryz.al255 Tryz.al256 Tryz.al129 Tryz.al152 Tryz.al31 Tryz.al46 Tryz.al52 Tryz.al54 Tryz.al60 Tryz.al70 Tryz.al74 Tryz.al93 Tryz.al141 Tryz.al151 Tryz.al170 Tryz.al186 Tryz.al189 Tryz.al194 Tryz.al197 Tryz.al219 Tryz.al224 Tryz.al230 Tryz.al235 Tryz.al243 Tryz.al247 Tryz.al252 Tryz.al258
attribute [local go_sem] Request.length_enc Request.ok_enc Request.all_get Request.all_set Request.kind_get Request.kind_set Request.blob_get Request.blob_set Request.items_get Request.items_set Request.pred_get Request.pred_set Request.slots_get Request.slots_set Trace.length_enc Trace.ok_enc Trace.all_get Trace.all_set Trace.op_get Trace.op_set Trace.calls_get Trace.calls_set Item.length_enc Item.ok_enc Item.all_get Item.all_set Item.del_get Item.del_set Item.pred_get Item.pred_set Item.args_get Item.args_set Reply.length_enc Reply.ok_enc Reply.all_get Reply.all_set Reply.code_get Reply.code_set Reply.kind_get Reply.kind_set Reply.index_get Reply.index_set Reply.yes_get Reply.yes_set Reply.preds_get Reply.preds_set Reply.rules_get Reply.rules_set Reply.arity_get Reply.arity_set Reply.rows_get Reply.rows_set Reply.fact_get Reply.fact_set Reply.fact_del_get Reply.fact_del_set Reply.fact_pred_get Reply.fact_pred_set Reply.fact_args_get Reply.fact_args_set GEntry.length_enc GEntry.ok_enc GEntry.all_get GEntry.all_set GEntry.seq_get GEntry.seq_set GEntry.kind_get GEntry.kind_set GEntry.code_get GEntry.code_set GOp.length_enc GOp.ok_enc GOp.all_get GOp.all_set GOp.kind_get GOp.kind_set GOp.raw_get GOp.raw_set Reader.length_enc Reader.ok_enc Reader.all_get Reader.all_set Reader.buf_get Reader.buf_set Reader.at__get Reader.at__set Slot.length_enc Slot.ok_enc Slot.all_get Slot.all_set Slot.bound_get Slot.bound_set Slot.name_get Slot.name_set Session.length_enc Session.ok_enc Session.all_get Session.all_set Session.svc_get Session.svc_set Session.buf_get Session.buf_set Session.closed_get Session.closed_set GProgram.length_enc GProgram.ok_enc GProgram.all_get GProgram.all_set GProgram.pool_get GProgram.pool_set GProgram.preds_get GProgram.preds_set GProgram.rules_get GProgram.rules_set GProgram.strata_get GProgram.strata_set PredInfo.length_enc PredInfo.ok_enc PredInfo.all_get PredInfo.all_set PredInfo.arity_get PredInfo.arity_set PredInfo.base_get PredInfo.base_set PredInfo.stratum_get PredInfo.stratum_set Change.length_enc Change.ok_enc Change.all_get Change.all_set Change.del_get Change.del_set Change.pred_get Change.pred_set Change.t_get Change.t_set Store.length_enc Store.ok_enc Store.all_get Store.all_set Store.names_get Store.names_set Store.arity_get Store.arity_set Store.rows_get Store.rows_set Src.length_enc Src.ok_enc Src.all_get Src.all_set Src.b_get Src.b_set Src.at__get Src.at__set Atom.length_enc Atom.ok_enc Atom.all_get Atom.all_set Atom.pred_get Atom.pred_set Atom.args_get Atom.args_set GRule.length_enc GRule.ok_enc GRule.all_get GRule.all_set GRule.head_get GRule.head_set GRule.body_get GRule.body_set GRule.head_pred_get GRule.head_pred_set GRule.head_args_get GRule.head_args_set Cert.length_enc Cert.ok_enc Cert.all_get Cert.all_set Cert.names_get Cert.names_set Cert.nodes_get Cert.nodes_set Fact.length_enc Fact.ok_enc Fact.all_get Fact.all_set Fact.pred_get Fact.pred_set Fact.t_get Fact.t_set Literal.length_enc Literal.ok_enc Literal.all_get Literal.all_set Literal.neg_get Literal.neg_set Literal.atom_get Literal.atom_set Literal.atom_pred_get Literal.atom_pred_set Literal.atom_args_get Literal.atom_args_set Engine.length_enc Engine.ok_enc Engine.all_get Engine.all_set Engine.prog_get Engine.prog_set Engine.st_get Engine.st_set SrcCertm.length_enc SrcCertm.ok_enc SrcCertm.all_get SrcCertm.all_set SrcCertm.b_get SrcCertm.b_set SrcCertm.at__get SrcCertm.at__set GNode.length_enc GNode.ok_enc GNode.all_get GNode.all_set GNode.rule_get GNode.rule_set GNode.pred_get GNode.pred_set GNode.vals_get GNode.vals_set GNode.refs_get GNode.refs_set Term.length_enc Term.ok_enc Term.all_get Term.all_set Term.var_get Term.var_set Term.n_get Term.n_set Env.length_enc Env.ok_enc Env.all_get Env.all_set Env.val_get Env.val_set Env.set_get Env.set_set
attribute [local go_sem] size_put size_ext blk_put free_put blk_alloc free_alloc blk_drew free_drew blk_ext free_ext lookOr_some putOr_some segAt_some cellAt_some storeIn_some put_put put_alloc_new length_arr ok_arr_u8 ok_arr_u32 ok_arr_u64 ok_arr_i64 ok_arr_sl cellsV_agg cellsV_int cellsV_bool cellsV_string cellsV_pointer cellsV_slice cellsV_sl ok_int ok_bool ok_string ok_pointer ok_slice ok_sl toList_arr seg_arr set_arr nth_splice nth_splice0 seg_splice seg_splice0 splice_splice splice_splice0 length_splice_if
attribute [local go_sem ↓] execOp_box
attribute [local go_sem] box_run nth_arr_u8 put_arr_u8 blk_drewN free_drewN put_drewN blk_raw free_raw
theorem OnG.trans {W V V' : World} {b : Nat} {C C' : List Value} (h : OnG W b V C) (h' : OnG V b V' C') : OnG W b V' C' := ⟨h'.os.trans h.os, h'.tape.trans h.tape, h'.output.trans h.output, Nat.le_trans h.size h'.size, fun k hk hn => (h'.heap k (Nat.lt_of_lt_of_le hk h.size) hn).trans (h.heap k hk hn), h'.blk, h'.free⟩
theorem OnG.new {W V V' : World} {b p : Nat} {C C' : List Value} (h : OnG W b V C) (h' : OnG V p V' C') (hp : W.heap.size ≤ p) (hne : p ≠ b) : OnG W b V' C := ⟨h'.os.trans h.os, h'.tape.trans h.tape, h'.output.trans h.output, Nat.le_trans h.size h'.size, fun k hk hn => (h'.heap k (Nat.lt_of_lt_of_le hk h.size) (by omega)).trans (h.heap k hk hn), (blk_of_heap (h'.heap b (blk_lt h.blk) (Ne.symm hne))).trans h.blk, (free_of_heap (h'.heap b (blk_lt h.blk) (Ne.symm hne))).trans h.free⟩
/-- One pass: runs of width w are merged two and two. -/
def pasN : Nat → Nat → List RD → List RD
  | 0, _, _ => []
  | m + 1, w, L => if L = [] then [] else mrg (L.take w) ((L.drop w).take w) ++ pasN m w (L.drop (2 * w))
def pasF (w : Nat) (L : List RD) : List RD := pasN L.length w L
def srtN : Nat → Nat → List RD → List RD
  | 0, _, L => L
  | m + 1, w, L => if w < L.length then srtN m (2 * w) (pasF w L) else L
/-- The rows sorted. -/
def srtF (L : List RD) : List RD := srtN L.length 1 L
theorem pasN_len : ∀ (m w : Nat) (L : List RD), 1 ≤ w → L.length ≤ m → (pasN m w L).length = L.length
  | 0, w, L, _, h => by
    have : L = [] := List.eq_nil_of_length_eq_zero (by omega)
    rw [this]; rfl
  | m + 1, w, L, hw, h => by
    unfold pasN
    by_cases e : L = []
    · rw [if_pos e, e]
    · have h0 : 0 < L.length := by cases L with
        | nil => exact absurd rfl e
        | cons _ _ => simp
      rw [if_neg e, List.length_append, mrg_len, pasN_len m w _ hw (by rw [List.length_drop]; omega)]
      simp only [List.length_take, List.length_drop]
      omega
theorem pasF_len {w : Nat} (hw : 1 ≤ w) (L : List RD) : (pasF w L).length = L.length := pasN_len _ _ _ hw (Nat.le_refl _)
theorem mrg_mem {A B : List RD} {x : RD} (h : x ∈ mrg A B) : x ∈ A ∨ x ∈ B := by
  unfold mrg at h
  exact List.mem_merge.1 h
theorem pasN_mem : ∀ (m w : Nat) (L : List RD) (x : RD), x ∈ pasN m w L → x ∈ L
  | 0, _, _, _, h => by cases h
  | m + 1, w, L, x, h => by
    unfold pasN at h
    by_cases e : L = []
    · rw [if_pos e] at h; cases h
    · rw [if_neg e] at h
      rcases List.mem_append.1 h with h | h
      · rcases mrg_mem h with h | h
        · exact List.mem_of_mem_take h
        · exact List.mem_of_mem_drop (List.mem_of_mem_take h)
      · exact List.mem_of_mem_drop (pasN_mem m w _ x h)
theorem mgC.cat {CD C' C2 : List Value} {lo hi : Nat} {pre M : List RD} (h : mgC CD C' 0 lo pre) (h' : mgC C' C2 lo hi M) (hlo : lo ≤ hi) : mgC CD C2 0 hi (pre ++ M) := by
  refine ⟨h'.1.trans h.1, by rw [List.length_append, h.2.1, h'.2.1]; omega, fun q => ?_⟩
  rw [h'.2.2 q, h.2.2 q]
  have hp := h.2.1
  by_cases e : q < lo
  · rw [if_neg (by omega), if_pos ⟨by omega, e⟩, if_pos ⟨by omega, by omega⟩, List.getElem?_append_left (by omega)]
  · by_cases e2 : q < hi
    · rw [if_pos ⟨by omega, e2⟩, if_pos ⟨by omega, e2⟩, List.getElem?_append_right (by omega)]
      congr 2
      omega
    · rw [if_neg (by omega), if_neg (by omega), if_neg (by omega)]
theorem cut_lo {L : List RD} {lo w n mid : Nat} (hL : L.length = n) (hlo : lo ≤ n) (hm : mid = min (lo + w) n) : cutL L lo mid = (L.drop lo).take w := by
  unfold cutL
  by_cases e : lo + w ≤ n
  · rw [hm, Nat.min_eq_left e, show lo + w - lo = w from by omega]
  · rw [hm, Nat.min_eq_right (by omega), List.take_of_length_le (by rw [List.length_drop]; omega), List.take_of_length_le (by rw [List.length_drop]; omega)]
theorem cut_hi {L : List RD} {lo w n mid hi : Nat} (hL : L.length = n) (hlo : lo ≤ n) (hm : mid = min (lo + w) n) (hh : hi = min (lo + 2 * w) n) : cutL L mid hi = ((L.drop lo).drop w).take w := by
  unfold cutL
  rw [List.drop_drop]
  by_cases e : lo + w ≤ n
  · have em : mid = lo + w := by rw [hm, Nat.min_eq_left e]
    rw [em]
    by_cases e2 : lo + 2 * w ≤ n
    · rw [hh, Nat.min_eq_left e2, show lo + 2 * w - (lo + w) = w from by omega]
    · rw [hh, Nat.min_eq_right (by omega), List.take_of_length_le (by rw [List.length_drop]; omega), List.take_of_length_le (by rw [List.length_drop]; omega)]
  · rw [List.drop_eq_nil_of_le (by omega), List.drop_eq_nil_of_le (by omega)]
    simp
theorem make49 (w : World) (n : Nat) (hn : n ≤ 100000) : (makeOp 61 (.int .i64 (n : Int)) (.int .i64 (n : Int))).run Tryz.prog w = .ok (.value (.slice (some ⟨w.heap.size, 0, none⟩) n n)) (w.alloc (.cells (madeCells (Value.slice none 0 0).cells (n * 1)) 43)) := by
  obtain ⟨i, hi, hz, hsz, hby⟩ : ∃ i, Tryz.prog.info? 43 = some i ∧ i.zero = some (.slice none 0 0) ∧ i.size = 1 ∧ i.bytes = 24 := by
    have hq : (Tryz.prog.info? 43).map (fun i => (i.zero, i.size, i.bytes)) = some (some (.slice none 0 0), 1, 24) := by kernel_rfl
    cases hx : Tryz.prog.info? 43 with
    | none => rw [hx] at hq; simp at hq
    | some i =>
      rw [hx] at hq
      simp only [Option.map_some, Option.some.injEq, Prod.mk.injEq] at hq
      exact ⟨i, rfl, hq.1, hq.2.1, hq.2.2⟩
  have hr := run_make (P := Tryz.prog) w 61 43 i _ Tryz.underlying61 hi hz .i64 .i64 (n : Int) (n : Int) (by omega) (by omega) (by rw [hby]; omega) (by omega)
  unfold makeOp
  rw [Sem.run_bind, hr, hsz, Int.toNat_natCast]
  rfl
theorem wpList_copy_run {w : World} {ops : Array Oper} {rest : List Oper} {o : Oper} {a : Act} {Q : Exit → Act → World → Prop} (hgd : o.guard = none) (s x : Operand) (t : TypeId)
    (ho : o.op = .call { callee := .builtin .copy, args := #[s, x], argTypes := #[t, t] }) (v u v' : Value) (w' : World) (hs : a.eval s = v) (hx : a.eval x = u) (hr : (Builtin.copy_ #[t, t] o.type #[v, u]).run Tryz.prog w = .ok v' w')
    (hK : wpList Tryz.prog ops Q rest (a.put o.dst v') w') : wpList Tryz.prog ops Q (o :: rest) a w := by
  refine wpList_plain hgd fun K hK' => ?_
  unfold Oper.wp
  simp [execOp, ho, resolve, invoke, builtin, hs, hx, hr, Result.andThen]
  exact hK' _ _ hK
theorem copy49 {w : World} {b b' n dc sc : Nat} (ty : TypeId) {D S : List Value} (hb : blk w b = some D) (hf : free w b = true) (hs : blk w b' = some S) (hD : n ≤ D.length) (hS : S.length = n) (h1 : ∀ v ∈ S, v.oneCell' = true) : (Builtin.copy_ #[61, 61] ty #[.slice (some ⟨b, 0, none⟩) n dc, .slice (some ⟨b', 0, none⟩) n sc]).run Tryz.prog w = .ok (goInt n) (put w b (S ++ D.drop n)) := by
  obtain ⟨t, fz, ht⟩ := blk_some hb
  have hz : fz = (0, 0) := by
    unfold free at hf
    rw [ht] at hf
    simpa using hf
  subst hz
  have hrun := run_copy_row (P := Tryz.prog) w 61 61 ty 43 b 0 n dc ⟨b', 0, none⟩ n sc D.toArray t S Tryz.underlying61 (by kernel_rfl) ht (by rw [hS]; exact (Nat.min_self n).symm) (fun j v hv => ?_) (by rw [hS]; simpa using hD) h1
  · rw [hrun]
    simp only [List.take_zero, List.nil_append, hS, Nat.zero_add]
    rfl
  · obtain ⟨t', fz', ht'⟩ := blk_some hs
    rw [add_addr, Nat.zero_add]
    unfold World.cell?
    rw [ht']
    simpa using hv
/-- The rows and the spare while they are sorted. -/
structure SoS (W : World) (br bp n lr : Nat) (L0 : List RD) (w : Nat) (sp : Bool) (V : World) (CR CP : List Value) (L : List RD) (m : Nat) : Prop where
  on : OnG W br V CR
  lR : CR.length = lr
  pb : blk V bp = some CP
  pf : free V bp = true
  lP : CP.length = n
  ll : L.length = n
  ce : ∀ k x, L[k]? = some x → nth (if sp then CP else CR) k = some (rdV x)
  eq : srtN n 1 L0 = srtN m w L
  me : n < m + w
  mem : ∀ x ∈ L, x ∈ L0
def soI (W : World) (br bp n c lr : Nat) (L0 : List RD) (f : Nat → Value) (V : World) : Prop := f 0 = .slice (some ⟨br, 0, none⟩) n c ∧ f 2 = .int .i64 (n : Nat) ∧ ∃ (w : Nat) (sp : Bool), 1 ≤ w ∧ w ≤ 2 * n + 1 ∧ f 5 = .bool sp ∧ f 6 = .int .i64 (w : Nat) ∧ f 3 = .slice (some ⟨if sp then bp else br, 0, none⟩) n (if sp then n else c) ∧ f 4 = .slice (some ⟨if sp then br else bp, 0, none⟩) n (if sp then c else n) ∧ Hid (∃ CR CP L m, SoS W br bp n lr L0 w sp V CR CP L m)
def siI (br n c bS cS bD cD w : Nat) (sp : Bool) (V1 : World) (CD : List Value) (L : List RD) (f : Nat → Value) (V : World) : Prop := f 0 = .slice (some ⟨br, 0, none⟩) n c ∧ f 2 = .int .i64 (n : Nat) ∧ f 3 = .slice (some ⟨bS, 0, none⟩) n cS ∧ f 4 = .slice (some ⟨bD, 0, none⟩) n cD ∧ f 5 = .bool sp ∧ f 6 = .int .i64 (w : Nat) ∧ ∃ lo : Nat, lo ≤ n + 2 * w ∧ f 7 = .int .i64 (lo : Nat) ∧ Hid (∃ C' pre m, OnG V1 bD V C' ∧ mgC CD C' 0 (min lo n) pre ∧ pasF w L = pre ++ pasN m w (L.drop lo) ∧ n ≤ m + lo)
attribute [local go_sem ↓] execOp_make
attribute [local go_sem] make49
set_option maxRecDepth 100000 in
theorem frame56s (f : Nat → Value) : frameN 56 f = #[f 0, f 1, f 2, f 3, f 4, f 5, f 6, f 7, f 8, f 9, f 10, f 11, f 12, f 13, f 14, f 15, f 16, f 17, f 18, f 19, f 20, f 21, f 22, f 23, f 24, f 25, f 26, f 27, f 28, f 29, f 30, f 31, f 32, f 33, f 34, f 35, f 36, f 37, f 38, f 39, f 40, f 41, f 42, f 43, f 44, f 45, f 46, f 47, f 48, f 49, f 50, f 51, f 52, f 53, f 54, f 55] := by kernel_rfl
set_option maxRecDepth 20000 in
set_option maxHeartbeats 4000000 in
theorem sortRows_any {W : World} {br : Nat} {CR0 : List Value} (hr : blk W br = some CR0) (hf : free W br = true) (L0 : List RD) (n c ar : Nat) (hLn : L0.length = n) (hn : n ≤ 10000) (hCR : n ≤ CR0.length) (hCS : ∀ k x, L0[k]? = some x → nth CR0 k = some (rdV x)) (hro : ∀ x ∈ L0, x.1.len = ar ∧ ∀ V C, OnG W br V C → Rw encS 1 V x.1.a ar x.2) (har : ar ≤ 1000) : Calls Tryz.prog 145 #[.slice (some ⟨br, 0, none⟩) n c] W fun e V => e = .returned (.tuple #[]) ∧ ∃ C', OnG W br V C' ∧ C'.length = CR0.length ∧ ∀ k x, (srtF L0)[k]? = some x → nth C' k = some (rdV x) := by
  obtain ⟨Q, hQ⟩ : ∃ Q : Ending → World → Prop, Q = fun e V => e = .returned (.tuple #[]) ∧ ∃ C', OnG W br V C' ∧ C'.length = CR0.length ∧ ∀ k x, (srtF L0)[k]? = some x → nth C' k = some (rdV x) := ⟨_, rfl⟩
  rw [← hQ]
  have HQ := hid_of hQ
  have HR := hid_of hr
  have HF := hid_of hf
  have HCS := hid_of hCS
  have HRO := hid_of hro
  have HLN := hid_of hLn
  obtain ⟨lr, hlr⟩ : ∃ lr, lr = CR0.length := ⟨_, rfl⟩
  rw [← hlr] at hCR
  have HLR := hid_of hlr
  clear hQ hr hf hCS hro hLn hlr
  go_enter Tryz.func145, Tryz.ntmps145
  go_upto_region 1 with fail
  have hn5 : n ≤ 100000 := by omega
  have hSd : blk W.drew br = some CR0 := HR.out
  refine wp_region_held_drew (S := fun W' => blk W' br = some CR0) (by kernel_rfl) hSd (fun hHeld => ?_)
  refine wpAnyH_take (i := 0) (oi := ⟨_, _, _, _, _, _⟩) (v := ?_) rfl (by kernel_rfl) (by kernel_rfl) (by kernel_rfl) (fun _ _ _ h => h) (Or.inl ⟨by rfl, ?_⟩) (by assumption) ?_
  rotate_left 1
  · intro W' hSw
    go_simp
    try with_reducible rfl
  try simp only [Act.put, List.setIfInBounds_toArray, List.set_cons_zero, List.set_cons_succ]
  refine wpAnyH_take (i := 1) (oi := ⟨_, _, _, _, _, _⟩) (v := ?_) rfl (by kernel_rfl) (by kernel_rfl) (by kernel_rfl) (fun _ _ _ h => h) (Or.inl ⟨by rfl, ?_⟩) (by assumption) ?_
  rotate_left 1
  · intro W' hSw
    go_simp
    try with_reducible rfl
  try simp only [Act.put, List.setIfInBounds_toArray, List.set_cons_zero, List.set_cons_succ]
  refine wpAnyH_take (i := 3) (oi := ⟨_, _, _, _, _, _⟩) (v := ?_) rfl (by kernel_rfl) (by kernel_rfl) (by kernel_rfl) (fun _ _ _ h => h) (Or.inl ⟨by rfl, ?_⟩) (by assumption) ?_
  rotate_left 1
  · intro W' hSw
    go_simp
    try with_reducible rfl
  try simp only [Act.put, List.setIfInBounds_toArray, List.set_cons_zero, List.set_cons_succ]
  refine wpAnyH_ready (rs := [2]) (by kernel_rfl) (by simp) ?_
  refine AllReadyH.cons (o := ⟨_, _, _, _, _, _⟩) rfl (fun K' hK => ?_) AllReadyH.nil
  go_simp
  have hSA : ∀ X, blk (W.drew.alloc X) br = some CR0 := fun X => ((extends_alloc (ext_Ext (Ext.refl W.drew)) X).blk (blk_lt HR.out)).trans HR.out
  refine hK.out _ _ (hSA _) (fun hHeld => ?_)
  clear hK K'
  try simp only [Act.put, List.setIfInBounds_toArray, List.set_cons_zero, List.set_cons_succ]
  refine wpAnyH_take (i := 4) (oi := ⟨_, _, _, _, _, _⟩) (v := ?_) rfl (by kernel_rfl) (by kernel_rfl) (by kernel_rfl) (fun _ _ _ h => h) (Or.inl ⟨by rfl, ?_⟩) (by assumption) ?_
  rotate_left 1
  · intro W' hSw
    go_simp
    try with_reducible rfl
  try simp only [Act.put, List.setIfInBounds_toArray, List.set_cons_zero, List.set_cons_succ]
  refine wpAnyH_done (by kernel_rfl) ?_ _
  go_upto_region 4 with fail
  refine wp_world (fun V => W.Extends V ∧ (∃ CP0, blk V W.heap.size = some CP0 ∧ CP0.length = n) ∧ free V W.heap.size = true) ⟨?_, ?_, ?_⟩ ?_
  · exact (extd W).trans (extends_alloc (ext_Ext (Ext.refl _)) _)
  · refine ⟨_, show blk (W.alloc _) W.heap.size = some _ by rw [blk_alloc, if_pos rfl], ?_⟩
    simp [madeCells]
  · show free (W.alloc _) W.heap.size = _
    rw [free_alloc, if_pos rfl]
  rintro V0 ⟨hx0, ⟨CP0, hbp0, hlp0⟩, hfp0⟩
  obtain ⟨bp, ebp⟩ : ∃ bp, bp = W.heap.size := ⟨_, rfl⟩
  rw [← ebp] at hbp0 hfp0 ⊢
  have hne : bp ≠ br := by have := blk_lt HR.out; omega
  have HLO : Hid (W.heap.size ≤ bp) := Nat.le_of_eq ebp.symm
  have HJ0 : Hid (∃ CR CP L m, SoS W br bp n lr L0 1 false V0 CR CP L m) := by
    refine ⟨CR0, _, L0, n, ⟨⟨hx0.os, hx0.tape, hx0.output, hx0.size, fun k hk _ => hx0.block k hk, (hx0.blk (blk_lt HR.out)).trans HR.out, (free_of_heap (hx0.block br (blk_lt HR.out))).trans HF.out⟩, HLR.out.symm, hbp0, hfp0, hlp0, HLN.out, ?_, rfl, by omega, fun x hx => hx⟩⟩
    intro k x hx
    rw [if_neg (by decide)]
    exact HCS.out k x hx
  clear hx0 hbp0 hfp0 ebp hSd
  refine wp_loop_f 56 (soI W br bp n c lr L0) (fun f _ => 2 * n + 1 - (intOf (f 6)).toNat) rfl ⟨rfl, rfl, 1, false, by omega, by omega, rfl, rfl, rfl, rfl, HJ0⟩ ?_
  clear HJ0
  intro F V hrel
  obtain ⟨f0, f2, w, sp, hw1, hw2, f5, f6, f3, f4, HJ⟩ := hrel
  have H6 := hid_of f6
  have hww : w < n → 2 * w ≤ 2 * n + 1 := by omega
  cases sp with
  | false =>
  rw [if_neg (by decide), if_neg (by decide)] at f3 f4
  rw [frame56s, f0, f2, f3, f4, f5, f6]
  clear f0 f2 f3 f4 f5 f6
  obtain ⟨CR, CP, L, m, hS⟩ := HJ.out
  clear HJ
  by_cases hwn : w < n
  rotate_left 1
  · have hwn' : ¬ (w : Int) < (n : Int) := by omega
    have hfin : srtF L0 = L := by
      unfold srtF
      rw [HLN.out, hS.eq]
      cases m with
      | zero => rfl
      | succ m => unfold srtN; rw [if_neg (by rw [hS.ll]; exact hwn)]
    have HP : Hid (Q (.returned (.tuple #[])) V) := by
      show Q _ _
      rw [HQ.out]
      refine ⟨rfl, CR, hS.on, by rw [hS.lR, HLR.out], fun k x hx => ?_⟩
      rw [hfin] at hx
      have h9 := hS.ce k x hx
      rw [if_neg (by decide)] at h9
      exact h9
    clear hS hfin
    go_wp2_with fail
    go_end0
    exact HP.out
  have hwn' : (w : Int) < (n : Int) := by omega
  have HSO := hid_of hS
  have hsrc := hS.on.blk
  have hdst := hS.pb
  have hdfr := hS.pf
  have HSR : Hid (blk V br = some CR) := hsrc
  have HLS : Hid (CR.length = lr ∧ CP.length = n) := ⟨by first | exact HSO.out.lR | exact HSO.out.lP, by first | exact HSO.out.lP | exact HSO.out.lR⟩
  have HCE : Hid (∀ k x, L[k]? = some x → nth CR k = some (rdV x)) := fun k x hx => by
    have h9 := HSO.out.ce k x hx
    rw [if_neg (by decide)] at h9
    exact h9
  have HJ2 : Hid (∃ C' pre m, OnG V bp V C' ∧ mgC CP C' 0 (min 0 n) pre ∧ pasF w L = pre ++ pasN m w (L.drop 0) ∧ n ≤ m + 0) := ⟨CP, [], n, OnG.refl hdst hdfr, ⟨rfl, by simp, fun q => by rw [if_neg (by omega)]⟩, by unfold pasF; rw [HSO.out.ll]; rfl, by omega⟩
  clear hS hsrc hdst hdfr
  go_upto_region 7 with fail
  refine wp_loop_f 56 (siI br n c br c bp n w false V CP L) (fun f _ => n + 2 * w - (intOf (f 7)).toNat) rfl ⟨rfl, rfl, rfl, rfl, rfl, rfl, 0, by omega, rfl, HJ2⟩ ?_
  clear HJ2
  intro F2 V2 hrel
  obtain ⟨f0, f2, f3, f4, f5, f6, lo, hlo, f7, HJ⟩ := hrel
  have H7 := hid_of f7
  rw [frame56s, f0, f2, f3, f4, f5, f6, f7]
  clear f0 f2 f3 f4 f5 f6 f7
  obtain ⟨C1, pre, m1, ho, hmg, hpa, hm1⟩ := HJ.out
  clear HJ
  by_cases hln : lo < n
  rotate_left 1
  · have hln' : ¬ (lo : Int) < (n : Int) := by omega
    have hpf : pasF w L = pre := by
      rw [hpa, List.drop_eq_nil_of_le (by rw [HSO.out.ll]; omega)]
      cases m1 with
      | zero => exact List.append_nil _
      | succ m => unfold pasN; rw [if_pos rfl]; exact List.append_nil _
    rw [Nat.min_eq_right (by omega)] at hmg
    have HJ' : Hid (∃ CR CP L m, SoS W br bp n lr L0 (2 * w) true V2 CR CP L m) := by
      obtain ⟨m0, rfl⟩ : ∃ m0, m = m0 + 1 := ⟨m - 1, by have := HSO.out.me; omega⟩
      have hpl : (pasF w L).length = n := (pasF_len hw1 L).trans HSO.out.ll
      have hsb : blk V2 br = some CR := (blk_of_heap (ho.heap br (blk_lt HSR.out) (Ne.symm hne))).trans HSR.out
      refine ⟨CR, C1, pasF w L, m0, ⟨HSO.out.on.new ho HLO.out hne, HSO.out.lR, ho.blk, ho.free, hmg.1.trans HSO.out.lP, hpl, fun k x hx => ?_, ?_, by have := HSO.out.me; omega, fun x hx => HSO.out.mem x (pasN_mem _ _ _ x hx)⟩⟩
      · rw [if_pos rfl]
        have hkn : k < n := by rw [← hpl]; exact (List.getElem?_eq_some_iff.1 hx).1
        rw [hpf] at hx
        rw [hmg.2.2 k, if_pos ⟨by omega, hkn⟩, Nat.sub_zero, hx]; rfl
      · rw [HSO.out.eq]
        conv => lhs; rw [srtN]
        rw [if_pos (by rw [HSO.out.ll]; exact hwn)]
    clear ho hmg hpa hpf HSO HCE
    go_wp2_with fail
    refine ⟨rfl, rfl, ⟨rfl, rfl, 2 * w, true, by omega, hww hwn, rfl, ?_, ?_, ?_, HJ'⟩, ?_⟩
    · show Value.int .i64 _ = _
      go_num
    · rw [if_pos rfl, if_pos rfl]; rfl
    · rw [if_pos rfl, if_pos rfl]; rfl
    · show 2 * n + 1 - (intOf (Value.int .i64 _)).toNat < 2 * n + 1 - (intOf (F 6)).toNat
      rw [H6.out]
      simp [intOf]; omega
  have hln' : (lo : Int) < (n : Int) := by omega
  rw [Nat.min_eq_left (by omega)] at hmg
  obtain ⟨m2, rfl⟩ : ∃ m2, m1 = m2 + 1 := ⟨m1 - 1, by omega⟩
  have hne0 : L.drop lo ≠ [] := fun e => by
    have h9 := congrArg List.length e
    rw [List.length_drop, HSO.out.ll] at h9
    simp at h9; omega
  have hpa2 : pasF w L = pre ++ (mrg ((L.drop lo).take w) (((L.drop lo).drop w).take w) ++ pasN m2 w (L.drop (lo + 2 * w))) := by
    rw [hpa]
    conv => lhs; rw [pasN]
    rw [if_neg hne0]
    simp only [List.drop_drop]
  have HPA := hid_of hpa2
  have HMG := hid_of hmg
  have HO := hid_of ho
  have hsb : blk V2 br = some CR := (blk_of_heap (ho.heap br (blk_lt HSR.out) (Ne.symm hne))).trans HSR.out
  have HMC : Hid (∀ mid hi, lo ≤ mid → mid ≤ hi → hi ≤ n → Calls Tryz.prog 163 #[.slice (some ⟨bp, 0, none⟩) n n, .slice (some ⟨br, 0, none⟩) n c, .int .i64 (lo : Nat), .int .i64 (mid : Nat), .int .i64 (hi : Nat)] V2 fun e V => e = .returned (.tuple #[]) ∧ ∃ C', OnG V2 bp V C' ∧ mgC C1 C' lo hi (mrg (cutL L lo mid) (cutL L mid hi))) := fun mid hi h1 h2 h3 => by
    refine merge_any HO.out.blk HO.out.free hsb (hne) L n _ _ ar lo mid hi HSO.out.ll (by omega) (by rw [HMG.out.1, HLS.out.2]; omega) (by rw [HLS.out.1]; omega) HCE.out (fun x hx => ?_) har h1 h2 h3
    obtain ⟨q1, q2⟩ := HRO.out x (HSO.out.mem x hx)
    refine ⟨q1, fun V9 C9 ho9 => ?_⟩
    have ho : OnG V bp V9 C9 := HO.out.trans ho9
    exact q2 V9 _ (HSO.out.on.new ho HLO.out hne)
  have HFIN : Hid (∀ mid hi V3 C', mid = min (lo + w) n → hi = min (lo + 2 * w) n → OnG V2 bp V3 C' → mgC C1 C' lo hi (mrg (cutL L lo mid) (cutL L mid hi)) → ∃ C' pre m, OnG V bp V3 C' ∧ mgC CP C' 0 (min (lo + 2 * w) n) pre ∧ pasF w L = pre ++ pasN m w (L.drop (lo + 2 * w)) ∧ n ≤ m + (lo + 2 * w)) := by
    intro mid hi V3 C' hm hh ho3 hg
    rw [cut_lo HSO.out.ll (by omega) hm, cut_hi HSO.out.ll (by omega) hm hh] at hg
    refine ⟨C', pre ++ mrg ((L.drop lo).take w) (((L.drop lo).drop w).take w), m2, HO.out.trans ho3, ?_, ?_, by omega⟩
    · rw [← hh]
      exact HMG.out.cat hg (by rw [hh]; omega)
    · rw [HPA.out, List.append_assoc]
  clear hpa hpa2 hmg ho hsb hne0
  have q2w : (0 : Int) ≤ 2 * (w : Int) := by omega
  have hlo2 : lo + 2 * w ≤ n + 2 * w := by omega
  by_cases hm : lo + w ≤ n
  · have hm' : ¬ (lo : Int) + (w : Int) > (n : Int) := by omega
    by_cases hh : lo + 2 * w ≤ n
    · have hh' : ¬ (lo : Int) + 2 * (w : Int) > (n : Int) := by omega
      have hcall := HMC.out (lo + w) (lo + 2 * w) (by omega) (by omega) hh
      rw [show ((lo + w : Nat) : Int) = (lo : Int) + (w : Int) from by omega, show ((lo + 2 * w : Nat) : Int) = (lo : Int) + 2 * (w : Int) from by omega] at hcall
      have HFN := HFIN.out (lo + w) (lo + 2 * w)
      clear HMC HFIN HPA HMG HO
      go_wp2_with fail
      refine hcall.mono ?_
      rintro e V3 ⟨rfl, C', hon, hmgc⟩
      have HJ' := hid_of (HFN V3 C' (by omega) (by omega) hon hmgc)
      clear hcall hon hmgc HFN
      dsimp only
      go_wp2_with fail
      refine ⟨rfl, rfl, ⟨rfl, rfl, rfl, rfl, rfl, rfl, lo + 2 * w, hlo2, ?_, HJ'⟩, ?_⟩
      · show Value.int .i64 _ = _
        go_num
      · show n + 2 * w - (intOf (Value.int .i64 _)).toNat < n + 2 * w - (intOf (F2 7)).toNat
        rw [H7.out]
        simp [intOf]; omega
    · have hh' : (lo : Int) + 2 * (w : Int) > (n : Int) := by omega
      have hcall := HMC.out (lo + w) n (by omega) (by omega) (Nat.le_refl _)
      rw [show ((lo + w : Nat) : Int) = (lo : Int) + (w : Int) from by omega] at hcall
      have HFN := HFIN.out (lo + w) n
      clear HMC HFIN HPA HMG HO
      go_wp2_with fail
      refine hcall.mono ?_
      rintro e V3 ⟨rfl, C', hon, hmgc⟩
      have HJ' := hid_of (HFN V3 C' (by omega) (by omega) hon hmgc)
      clear hcall hon hmgc HFN
      dsimp only
      go_wp2_with fail
      refine ⟨rfl, rfl, ⟨rfl, rfl, rfl, rfl, rfl, rfl, lo + 2 * w, hlo2, ?_, HJ'⟩, ?_⟩
      · show Value.int .i64 _ = _
        go_num
      · show n + 2 * w - (intOf (Value.int .i64 _)).toNat < n + 2 * w - (intOf (F2 7)).toNat
        rw [H7.out]
        simp [intOf]; omega
  · have hm' : (lo : Int) + (w : Int) > (n : Int) := by omega
    have hh' : (lo : Int) + 2 * (w : Int) > (n : Int) := by omega
    have hcall := HMC.out n n (by omega) (Nat.le_refl _) (Nat.le_refl _)
    have HFN := HFIN.out n n
    clear HMC HFIN HPA HMG HO
    go_wp2_with fail
    refine hcall.mono ?_
    rintro e V3 ⟨rfl, C', hon, hmgc⟩
    have HJ' := hid_of (HFN V3 C' (by omega) (by omega) hon hmgc)
    clear hcall hon hmgc HFN
    dsimp only
    go_wp2_with fail
    refine ⟨rfl, rfl, ⟨rfl, rfl, rfl, rfl, rfl, rfl, lo + 2 * w, hlo2, ?_, HJ'⟩, ?_⟩
    · show Value.int .i64 _ = _
      go_num
    · show n + 2 * w - (intOf (Value.int .i64 _)).toNat < n + 2 * w - (intOf (F2 7)).toNat
      rw [H7.out]
      simp [intOf]; omega
  | true =>
  rw [if_pos rfl, if_pos rfl] at f3 f4
  rw [frame56s, f0, f2, f3, f4, f5, f6]
  clear f0 f2 f3 f4 f5 f6
  obtain ⟨CR, CP, L, m, hS⟩ := HJ.out
  clear HJ
  by_cases hwn : w < n
  rotate_left 1
  · have hwn' : ¬ (w : Int) < (n : Int) := by omega
    have hfin : srtF L0 = L := by
      unfold srtF
      rw [HLN.out, hS.eq]
      cases m with
      | zero => rfl
      | succ m => unfold srtN; rw [if_neg (by rw [hS.ll]; exact hwn)]
    have h1c : ∀ v ∈ CP, v.oneCell' = true := fun v hv => by
      obtain ⟨k, hk⟩ := List.getElem?_of_mem hv
      have hkn : k < L.length := by rw [hS.ll, ← hS.lP]; exact (List.getElem?_eq_some_iff.1 hk).1
      have h9 := hS.ce k _ (List.getElem?_eq_getElem hkn)
      rw [if_pos rfl] at h9
      have e9 : v = rdV (L[k]) := Option.some.inj (hk.symm.trans h9)
      rw [e9]; rfl
    have hcp := copy49 (n := n) (dc := c) (sc := n) 3 hS.on.blk hS.on.free hS.pb (by rw [hS.lR]; exact hCR) hS.lP h1c
    have HP : Hid (Q (.returned (.tuple #[])) (put V br (CP ++ CR.drop n))) := by
      show Q _ _
      rw [HQ.out]
      refine ⟨rfl, _, hS.on.put, by rw [List.length_append, List.length_drop, hS.lP, hS.lR, ← HLR.out]; omega, fun k x hx => ?_⟩
      rw [hfin] at hx
      have h9 := hS.ce k x hx
      rw [if_pos rfl] at h9
      have hkn : k < CP.length := by rw [hS.lP, ← hS.ll]; exact (List.getElem?_eq_some_iff.1 hx).1
      show (CP ++ CR.drop n)[k]? = _
      rw [List.getElem?_append_left hkn]
      exact h9
    clear hS hfin h1c
    go_wp2_with (at_builtin; refine wpList_copy_run rfl _ _ 61 rfl _ _ _ _ rfl rfl hcp ?_)
    go_end0
    exact HP.out
  have hwn' : (w : Int) < (n : Int) := by omega
  have HSO := hid_of hS
  have hsrc := hS.pb
  have hdst := hS.on.blk
  have hdfr := hS.on.free
  have HSR : Hid (blk V bp = some CP) := hsrc
  have HLS : Hid (CP.length = n ∧ CR.length = lr) := ⟨by first | exact HSO.out.lR | exact HSO.out.lP, by first | exact HSO.out.lP | exact HSO.out.lR⟩
  have HCE : Hid (∀ k x, L[k]? = some x → nth CP k = some (rdV x)) := fun k x hx => by
    have h9 := HSO.out.ce k x hx
    rw [if_pos rfl] at h9
    exact h9
  have HJ2 : Hid (∃ C' pre m, OnG V br V C' ∧ mgC CR C' 0 (min 0 n) pre ∧ pasF w L = pre ++ pasN m w (L.drop 0) ∧ n ≤ m + 0) := ⟨CR, [], n, OnG.refl hdst hdfr, ⟨rfl, by simp, fun q => by rw [if_neg (by omega)]⟩, by unfold pasF; rw [HSO.out.ll]; rfl, by omega⟩
  clear hS hsrc hdst hdfr
  go_upto_region 7 with fail
  refine wp_loop_f 56 (siI br n c bp n br c w true V CR L) (fun f _ => n + 2 * w - (intOf (f 7)).toNat) rfl ⟨rfl, rfl, rfl, rfl, rfl, rfl, 0, by omega, rfl, HJ2⟩ ?_
  clear HJ2
  intro F2 V2 hrel
  obtain ⟨f0, f2, f3, f4, f5, f6, lo, hlo, f7, HJ⟩ := hrel
  have H7 := hid_of f7
  rw [frame56s, f0, f2, f3, f4, f5, f6, f7]
  clear f0 f2 f3 f4 f5 f6 f7
  obtain ⟨C1, pre, m1, ho, hmg, hpa, hm1⟩ := HJ.out
  clear HJ
  by_cases hln : lo < n
  rotate_left 1
  · have hln' : ¬ (lo : Int) < (n : Int) := by omega
    have hpf : pasF w L = pre := by
      rw [hpa, List.drop_eq_nil_of_le (by rw [HSO.out.ll]; omega)]
      cases m1 with
      | zero => exact List.append_nil _
      | succ m => unfold pasN; rw [if_pos rfl]; exact List.append_nil _
    rw [Nat.min_eq_right (by omega)] at hmg
    have HJ' : Hid (∃ CR CP L m, SoS W br bp n lr L0 (2 * w) false V2 CR CP L m) := by
      obtain ⟨m0, rfl⟩ : ∃ m0, m = m0 + 1 := ⟨m - 1, by have := HSO.out.me; omega⟩
      have hpl : (pasF w L).length = n := (pasF_len hw1 L).trans HSO.out.ll
      have hsb : blk V2 bp = some CP := (blk_of_heap (ho.heap bp (blk_lt HSR.out) (hne))).trans HSR.out
      refine ⟨C1, CP, pasF w L, m0, ⟨HSO.out.on.trans ho, hmg.1.trans HSO.out.lR, hsb, (free_of_heap (ho.heap bp (blk_lt HSR.out) hne)).trans HSO.out.pf, HSO.out.lP, hpl, fun k x hx => ?_, ?_, by have := HSO.out.me; omega, fun x hx => HSO.out.mem x (pasN_mem _ _ _ x hx)⟩⟩
      · rw [if_neg (by decide)]
        have hkn : k < n := by rw [← hpl]; exact (List.getElem?_eq_some_iff.1 hx).1
        rw [hpf] at hx
        rw [hmg.2.2 k, if_pos ⟨by omega, hkn⟩, Nat.sub_zero, hx]; rfl
      · rw [HSO.out.eq]
        conv => lhs; rw [srtN]
        rw [if_pos (by rw [HSO.out.ll]; exact hwn)]
    clear ho hmg hpa hpf HSO HCE
    go_wp2_with fail
    refine ⟨rfl, rfl, ⟨rfl, rfl, 2 * w, false, by omega, hww hwn, rfl, ?_, ?_, ?_, HJ'⟩, ?_⟩
    · show Value.int .i64 _ = _
      go_num
    · rw [if_neg (by decide), if_neg (by decide)]; rfl
    · rw [if_neg (by decide), if_neg (by decide)]; rfl
    · show 2 * n + 1 - (intOf (Value.int .i64 _)).toNat < 2 * n + 1 - (intOf (F 6)).toNat
      rw [H6.out]
      simp [intOf]; omega
  have hln' : (lo : Int) < (n : Int) := by omega
  rw [Nat.min_eq_left (by omega)] at hmg
  obtain ⟨m2, rfl⟩ : ∃ m2, m1 = m2 + 1 := ⟨m1 - 1, by omega⟩
  have hne0 : L.drop lo ≠ [] := fun e => by
    have h9 := congrArg List.length e
    rw [List.length_drop, HSO.out.ll] at h9
    simp at h9; omega
  have hpa2 : pasF w L = pre ++ (mrg ((L.drop lo).take w) (((L.drop lo).drop w).take w) ++ pasN m2 w (L.drop (lo + 2 * w))) := by
    rw [hpa]
    conv => lhs; rw [pasN]
    rw [if_neg hne0]
    simp only [List.drop_drop]
  have HPA := hid_of hpa2
  have HMG := hid_of hmg
  have HO := hid_of ho
  have hsb : blk V2 bp = some CP := (blk_of_heap (ho.heap bp (blk_lt HSR.out) (hne))).trans HSR.out
  have HMC : Hid (∀ mid hi, lo ≤ mid → mid ≤ hi → hi ≤ n → Calls Tryz.prog 163 #[.slice (some ⟨br, 0, none⟩) n c, .slice (some ⟨bp, 0, none⟩) n n, .int .i64 (lo : Nat), .int .i64 (mid : Nat), .int .i64 (hi : Nat)] V2 fun e V => e = .returned (.tuple #[]) ∧ ∃ C', OnG V2 br V C' ∧ mgC C1 C' lo hi (mrg (cutL L lo mid) (cutL L mid hi))) := fun mid hi h1 h2 h3 => by
    refine merge_any HO.out.blk HO.out.free hsb (Ne.symm hne) L n _ _ ar lo mid hi HSO.out.ll (by omega) (by rw [HMG.out.1, HLS.out.2]; omega) (by rw [HLS.out.1]; omega) HCE.out (fun x hx => ?_) har h1 h2 h3
    obtain ⟨q1, q2⟩ := HRO.out x (HSO.out.mem x hx)
    refine ⟨q1, fun V9 C9 ho9 => ?_⟩
    have ho : OnG V br V9 C9 := HO.out.trans ho9
    exact q2 V9 _ (HSO.out.on.trans ho)
  have HFIN : Hid (∀ mid hi V3 C', mid = min (lo + w) n → hi = min (lo + 2 * w) n → OnG V2 br V3 C' → mgC C1 C' lo hi (mrg (cutL L lo mid) (cutL L mid hi)) → ∃ C' pre m, OnG V br V3 C' ∧ mgC CR C' 0 (min (lo + 2 * w) n) pre ∧ pasF w L = pre ++ pasN m w (L.drop (lo + 2 * w)) ∧ n ≤ m + (lo + 2 * w)) := by
    intro mid hi V3 C' hm hh ho3 hg
    rw [cut_lo HSO.out.ll (by omega) hm, cut_hi HSO.out.ll (by omega) hm hh] at hg
    refine ⟨C', pre ++ mrg ((L.drop lo).take w) (((L.drop lo).drop w).take w), m2, HO.out.trans ho3, ?_, ?_, by omega⟩
    · rw [← hh]
      exact HMG.out.cat hg (by rw [hh]; omega)
    · rw [HPA.out, List.append_assoc]
  clear hpa hpa2 hmg ho hsb hne0
  have q2w : (0 : Int) ≤ 2 * (w : Int) := by omega
  have hlo2 : lo + 2 * w ≤ n + 2 * w := by omega
  by_cases hm : lo + w ≤ n
  · have hm' : ¬ (lo : Int) + (w : Int) > (n : Int) := by omega
    by_cases hh : lo + 2 * w ≤ n
    · have hh' : ¬ (lo : Int) + 2 * (w : Int) > (n : Int) := by omega
      have hcall := HMC.out (lo + w) (lo + 2 * w) (by omega) (by omega) hh
      rw [show ((lo + w : Nat) : Int) = (lo : Int) + (w : Int) from by omega, show ((lo + 2 * w : Nat) : Int) = (lo : Int) + 2 * (w : Int) from by omega] at hcall
      have HFN := HFIN.out (lo + w) (lo + 2 * w)
      clear HMC HFIN HPA HMG HO
      go_wp2_with fail
      refine hcall.mono ?_
      rintro e V3 ⟨rfl, C', hon, hmgc⟩
      have HJ' := hid_of (HFN V3 C' (by omega) (by omega) hon hmgc)
      clear hcall hon hmgc HFN
      dsimp only
      go_wp2_with fail
      refine ⟨rfl, rfl, ⟨rfl, rfl, rfl, rfl, rfl, rfl, lo + 2 * w, hlo2, ?_, HJ'⟩, ?_⟩
      · show Value.int .i64 _ = _
        go_num
      · show n + 2 * w - (intOf (Value.int .i64 _)).toNat < n + 2 * w - (intOf (F2 7)).toNat
        rw [H7.out]
        simp [intOf]; omega
    · have hh' : (lo : Int) + 2 * (w : Int) > (n : Int) := by omega
      have hcall := HMC.out (lo + w) n (by omega) (by omega) (Nat.le_refl _)
      rw [show ((lo + w : Nat) : Int) = (lo : Int) + (w : Int) from by omega] at hcall
      have HFN := HFIN.out (lo + w) n
      clear HMC HFIN HPA HMG HO
      go_wp2_with fail
      refine hcall.mono ?_
      rintro e V3 ⟨rfl, C', hon, hmgc⟩
      have HJ' := hid_of (HFN V3 C' (by omega) (by omega) hon hmgc)
      clear hcall hon hmgc HFN
      dsimp only
      go_wp2_with fail
      refine ⟨rfl, rfl, ⟨rfl, rfl, rfl, rfl, rfl, rfl, lo + 2 * w, hlo2, ?_, HJ'⟩, ?_⟩
      · show Value.int .i64 _ = _
        go_num
      · show n + 2 * w - (intOf (Value.int .i64 _)).toNat < n + 2 * w - (intOf (F2 7)).toNat
        rw [H7.out]
        simp [intOf]; omega
  · have hm' : (lo : Int) + (w : Int) > (n : Int) := by omega
    have hh' : (lo : Int) + 2 * (w : Int) > (n : Int) := by omega
    have hcall := HMC.out n n (by omega) (Nat.le_refl _) (Nat.le_refl _)
    have HFN := HFIN.out n n
    clear HMC HFIN HPA HMG HO
    go_wp2_with fail
    refine hcall.mono ?_
    rintro e V3 ⟨rfl, C', hon, hmgc⟩
    have HJ' := hid_of (HFN V3 C' (by omega) (by omega) hon hmgc)
    clear hcall hon hmgc HFN
    dsimp only
    go_wp2_with fail
    refine ⟨rfl, rfl, ⟨rfl, rfl, rfl, rfl, rfl, rfl, lo + 2 * w, hlo2, ?_, HJ'⟩, ?_⟩
    · show Value.int .i64 _ = _
      go_num
    · show n + 2 * w - (intOf (Value.int .i64 _)).toNat < n + 2 * w - (intOf (F2 7)).toNat
      rw [H7.out]
      simp [intOf]; omega
end Go.Proofs.Qxb6500787aGreat
