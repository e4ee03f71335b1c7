import Derived.Test.Qxb6500787aGreatBc

import Derived.StillTailTactics
import Derived.Deep.QuietTactic
import Derived.BigQuiet
import Derived.Deep.RegionHeld
import Derived.Deep.CutRange
import Derived.Laws.ResultCell
import Derived.Laws.Rows
import Derived.DeepKeys
import Derived.DataBytes
import Derived.Laws.StructEq
import Derived.Laws.AppendOwn
import Derived.Laws.MakeOwn
import Derived.Lib.AppendStr
set_option linter.unusedSimpArgs false
set_option linter.unusedVariables false
namespace Go.Proofs.Qxb6500787aGreat
open Go.RowKit Go.Blk
attribute [local go_sem ↓] execOp_load execOp_store execOp_alloc
attribute [local go_sem] Tryz.ld26 Tryz.st26 Tryz.ld27 Tryz.st27 Tryz.ld28 Tryz.st28 Tryz.ld3 Tryz.st3 Tryz.ld29 Tryz.st29 Tryz.ld44 Tryz.st44 Tryz.ld4 Tryz.st4 Tryz.ld50 Tryz.st50 Tryz.ld32 Tryz.st32 Tryz.ld49 Tryz.st49 Tryz.ld68 Tryz.st68 Tryz.ld9 Tryz.st9 Tryz.ld40 Tryz.st40 Tryz.ld138 Tryz.st138 Tryz.ld139 Tryz.st139 Tryz.ld146 Tryz.st146 Tryz.ld183 Tryz.st183 Tryz.ld184 Tryz.st184 Tryz.ld192 Tryz.st192 Tryz.ld195 Tryz.st195 Tryz.ld217 Tryz.st217 Tryz.ld159 Tryz.st159 Tryz.ld142 Tryz.st142 Tryz.ld2 Tryz.st2 Tryz.ld5 Tryz.st5 Tryz.ld12 Tryz.st12 Tryz.ld21 Tryz.st21 Tryz.ld22 Tryz.st22 Tryz.ld24 Tryz.st24 Tryz.ld58 Tryz.st58 Tryz.ld97 Tryz.st97 Tryz.ld101 Tryz.st101 Tryz.ld116 Tryz.st116 Tryz.ld121 Tryz.st121 Tryz.ld135 Tryz.st135 Tryz.ld136 Tryz.st136 Tryz.ld143 Tryz.st143 Tryz.ld148 Tryz.st148 Tryz.ld154 Tryz.st154 Tryz.ld173 Tryz.st173 Tryz.ld187 Tryz.st187 Tryz.ld222 Tryz.st222 Tryz.ld241 Tryz.st241 Tryz.ld248 Tryz.st248 Tryz.ld268 Tryz.st268 Tryz.ld272 Tryz.st272 Tryz.ld153 Tryz.st153 Tryz.ld255 Tryz.st255 Tryz.ld256 Tryz.st256 Tryz.ld129 Tryz.st129 Tryz.ld152 Tryz.st152 Tryz.ld31 Tryz.st31 Tryz.ld46 Tryz.st46 Tryz.ld52 Tryz.st52 Tryz.ld54 Tryz.st54 Tryz.ld60 Tryz.st60 Tryz.ld70 Tryz.st70 Tryz.ld74 Tryz.st74 Tryz.ld93 Tryz.st93 Tryz.ld141 Tryz.st141 Tryz.ld151 Tryz.st151 Tryz.ld170 Tryz.st170 Tryz.ld186 Tryz.st186 Tryz.ld189 Tryz.st189 Tryz.ld194 Tryz.st194 Tryz.ld197 Tryz.st197 Tryz.ld219 Tryz.st219 Tryz.ld224 Tryz.st224 Tryz.ld230 Tryz.st230 Tryz.ld235 Tryz.st235 Tryz.ld243 Tryz.st243 Tryz.ld247 Tryz.st247 Tryz.ld252 Tryz.st252 Tryz.ld258 Tryz.st258 Tryz.al153 Tryz.al255 Tryz.al256 Tryz.al129 Tryz.al152 Tryz.al31 Tryz.al46 Tryz.al52 Tryz.al54 Tryz.al60 Tryz.al70 Tryz.al74 Tryz.al93 Tryz.al141 Tryz.al151 Tryz.al170 Tryz.al186 Tryz.al189 Tryz.al194 Tryz.al197 Tryz.al219 Tryz.al224 Tryz.al230 Tryz.al235 Tryz.al243 Tryz.al247 Tryz.al252 Tryz.al258
attribute [local go_sem] Request.length_enc Request.ok_enc Request.all_get Request.all_set Request.kind_get Request.kind_set Request.blob_get Request.blob_set Request.items_get Request.items_set Request.pred_get Request.pred_set Request.slots_get Request.slots_set Trace.length_enc Trace.ok_enc Trace.all_get Trace.all_set Trace.op_get Trace.op_set Trace.calls_get Trace.calls_set Item.length_enc Item.ok_enc Item.all_get Item.all_set Item.del_get Item.del_set Item.pred_get Item.pred_set Item.args_get Item.args_set Reply.length_enc Reply.ok_enc Reply.all_get Reply.all_set Reply.code_get Reply.code_set Reply.kind_get Reply.kind_set Reply.index_get Reply.index_set Reply.yes_get Reply.yes_set Reply.preds_get Reply.preds_set Reply.rules_get Reply.rules_set Reply.arity_get Reply.arity_set Reply.rows_get Reply.rows_set Reply.fact_get Reply.fact_set Reply.fact_del_get Reply.fact_del_set Reply.fact_pred_get Reply.fact_pred_set Reply.fact_args_get Reply.fact_args_set GEntry.length_enc GEntry.ok_enc GEntry.all_get GEntry.all_set GEntry.seq_get GEntry.seq_set GEntry.kind_get GEntry.kind_set GEntry.code_get GEntry.code_set GOp.length_enc GOp.ok_enc GOp.all_get GOp.all_set GOp.kind_get GOp.kind_set GOp.raw_get GOp.raw_set Reader.length_enc Reader.ok_enc Reader.all_get Reader.all_set Reader.buf_get Reader.buf_set Reader.at__get Reader.at__set Slot.length_enc Slot.ok_enc Slot.all_get Slot.all_set Slot.bound_get Slot.bound_set Slot.name_get Slot.name_set Session.length_enc Session.ok_enc Session.all_get Session.all_set Session.svc_get Session.svc_set Session.buf_get Session.buf_set Session.closed_get Session.closed_set GProgram.length_enc GProgram.ok_enc GProgram.all_get GProgram.all_set GProgram.pool_get GProgram.pool_set GProgram.preds_get GProgram.preds_set GProgram.rules_get GProgram.rules_set GProgram.strata_get GProgram.strata_set PredInfo.length_enc PredInfo.ok_enc PredInfo.all_get PredInfo.all_set PredInfo.arity_get PredInfo.arity_set PredInfo.base_get PredInfo.base_set PredInfo.stratum_get PredInfo.stratum_set Change.length_enc Change.ok_enc Change.all_get Change.all_set Change.del_get Change.del_set Change.pred_get Change.pred_set Change.t_get Change.t_set Store.length_enc Store.ok_enc Store.all_get Store.all_set Store.names_get Store.names_set Store.arity_get Store.arity_set Store.rows_get Store.rows_set Src.length_enc Src.ok_enc Src.all_get Src.all_set Src.b_get Src.b_set Src.at__get Src.at__set Atom.length_enc Atom.ok_enc Atom.all_get Atom.all_set Atom.pred_get Atom.pred_set Atom.args_get Atom.args_set GRule.length_enc GRule.ok_enc GRule.all_get GRule.all_set GRule.head_get GRule.head_set GRule.body_get GRule.body_set GRule.head_pred_get GRule.head_pred_set GRule.head_args_get GRule.head_args_set Cert.length_enc Cert.ok_enc Cert.all_get Cert.all_set Cert.names_get Cert.names_set Cert.nodes_get Cert.nodes_set Fact.length_enc Fact.ok_enc Fact.all_get Fact.all_set Fact.pred_get Fact.pred_set Fact.t_get Fact.t_set Literal.length_enc Literal.ok_enc Literal.all_get Literal.all_set Literal.neg_get Literal.neg_set Literal.atom_get Literal.atom_set Literal.atom_pred_get Literal.atom_pred_set Literal.atom_args_get Literal.atom_args_set Engine.length_enc Engine.ok_enc Engine.all_get Engine.all_set Engine.prog_get Engine.prog_set Engine.st_get Engine.st_set SrcCertm.length_enc SrcCertm.ok_enc SrcCertm.all_get SrcCertm.all_set SrcCertm.b_get SrcCertm.b_set SrcCertm.at__get SrcCertm.at__set GNode.length_enc GNode.ok_enc GNode.all_get GNode.all_set GNode.rule_get GNode.rule_set GNode.pred_get GNode.pred_set GNode.vals_get GNode.vals_set GNode.refs_get GNode.refs_set Term.length_enc Term.ok_enc Term.all_get Term.all_set Term.var_get Term.var_set Term.n_get Term.n_set Env.length_enc Env.ok_enc Env.all_get Env.all_set Env.val_get Env.val_set Env.set_get Env.set_set
attribute [local go_sem] size_put size_ext blk_put free_put blk_alloc free_alloc blk_drew free_drew blk_ext free_ext lookOr_some putOr_some segAt_some cellAt_some storeIn_some put_put put_alloc_new length_arr ok_arr_u8 ok_arr_u32 ok_arr_u64 ok_arr_i64 ok_arr_sl cellsV_agg cellsV_int cellsV_bool cellsV_string cellsV_pointer cellsV_slice cellsV_sl ok_int ok_bool ok_string ok_pointer ok_slice ok_sl toList_arr seg_arr set_arr nth_splice nth_splice0 seg_splice seg_splice0 splice_splice splice_splice0 length_splice_if
attribute [local go_sem ↓] execOp_box
attribute [local go_sem] box_run nth_arr_u8 put_arr_u8 blk_drewN free_drewN put_drewN blk_raw free_raw
theorem rw_cells {α : Type} {en : α → List Value} {sz : Nat} (hln : ∀ x, (en x).length = sz) (hsz : 0 < sz) {W : World} {sp : Option Addr} {M : List α} (h : Rw en sz W sp M.length M) (hM : M ≠ []) : ∃ b C, sp = some ⟨b, 0, none⟩ ∧ blk W b = some C ∧ ∀ j u, (M.flatMap en)[j]? = some u → nth C j = some u := by
  have hpos : 0 < M.length := List.length_pos_iff.2 hM
  obtain ⟨b, C, e1, e2, e3, -⟩ := h.2 0 _ (List.getElem?_eq_getElem hpos)
  refine ⟨b, C, e1, e2, fun j u hu => ?_⟩
  have hfl : ∀ K : List α, (K.flatMap en).length = K.length * sz := fun K => by
    induction K with
    | nil => simp
    | cons x K ih => rw [List.flatMap_cons, List.length_append, hln, ih, List.length_cons, Nat.add_mul]; omega
  have hj : j < M.length * sz := by
    rw [← hfl]; exact (List.getElem?_eq_some_iff.1 hu).1
  have hi : j / sz < M.length := by rw [Nat.div_lt_iff_lt_mul hsz]; exact hj
  have hr : j % sz < sz := Nat.mod_lt _ hsz
  have hjr : j / sz * sz + j % sz = j := Nat.div_add_mod' j sz
  have hx := List.getElem?_eq_getElem hi
  obtain ⟨b', C', f1, f2, f3, f4⟩ := h.2 _ _ hx
  have eb : b' = b := by rw [e1] at f1; exact (congrArg Addr.block (Option.some.inj f1)).symm
  rw [eb, e2] at f2
  cases f2
  have g1 := seg_flatG en sz hln M _ _ hx
  have g2 : (seg (M.flatMap en) (j / sz * sz) sz)[j % sz]? = some u := by
    rw [seg_nth, if_pos hr, hjr]; exact hu
  rw [g1, ← f4, seg_nth, if_pos hr, hjr] at g2
  exact g2
/-- Nothing appended. -/
theorem app_nilG {sz : Nat} {t e : TypeId} (ht : Tryz.prog.underlying t = some (.slice e)) (hinfo : ∃ i z, Tryz.prog.info? e = some i ∧ i.zero = some z ∧ i.size = sz ∧ z.cells.size = sz) (ty : TypeId) {base : Nat} {w : World} {v : Value} {n : Nat} {xs : List Value} (h : w.ownsRow base e sz v n xs) (sp : Option Addr) (c : Nat) : (Builtin.append_ #[t, t] ty #[v, .slice sp 0 c]).run Tryz.prog w = .ok v w := by
  obtain ⟨i, z, hi, hz, hs, hzc⟩ := hinfo
  have hl0 : ∀ (x : Addr), (loadCells x 0).run Tryz.prog w = .ok #[] w := fun x => by simpa using run_loadCells_list (P := Tryz.prog) w x [] (by simp)
  obtain ⟨_, h | h⟩ := h
  · rw [h.1]
    cases sp <;> simp [Builtin.append_, run_underlying ht, sizeOf, typeInfo, hi, hs, Builtin.lenOf, Builtin.firstCells, hl0, storeCells]
  · obtain ⟨g, cap, cur, h1, _, h2, h3, h4, h5, h6⟩ := h
    rw [h1]
    cases sp <;> simp [Builtin.append_, run_underlying ht, sizeOf, typeInfo, hi, hs, Builtin.lenOf, Builtin.firstCells, h3, hl0, storeCells]
/-- Many things appended to an own row. -/
theorem appM {α : Type} {en : α → List Value} {sz bytes : Nat} {t e : TypeId} (hE : ElT en sz bytes t e) (base : Nat) (w : World) (ty : TypeId) (v : Value) (K M : List α) (sp : Option Addr) (c : Nat) (h : w.ownsRow base e sz v K.length (K.flatMap en)) (hM : Rw en sz w sp M.length M) (hb : base ≤ w.heap.size) (hl : K.length + M.length ≤ 10000000000) :
    ∃ a' n' c' w', (Builtin.append_ #[t, t] ty #[v, .slice sp M.length c]).run Tryz.prog w = .ok (.slice a' n' c') w' ∧ w'.ownsRow base e sz (.slice a' n' c') (K ++ M).length ((K ++ M).flatMap en) ∧ w.grownBy w' v.ownBlock := by
  obtain ⟨i, z, hi, hz, hsz', hby, hzc⟩ := hE.info
  by_cases h0 : M = []
  · subst h0
    obtain ⟨a', c', rfl⟩ := row_val h
    exact ⟨a', K.length, c', w, app_nilG hE.und ⟨i, z, hi, hz, hsz', hzc⟩ ty h sp c, by rw [List.append_nil]; exact h, ⟨rfl, rfl, rfl, Nat.le_refl _, fun _ _ _ => rfl⟩⟩
  · obtain ⟨b, C, rfl, hC, hn⟩ := rw_cells hE.len hE.pos hM h0
    have hnews : ∀ j u, (M.flatMap en)[j]? = some u → w.cell? ((⟨b, 0, none⟩ : Addr).add j) = some u := fun j u hu => by
      rw [add_addr, cell_blk hC, Nat.zero_add]
      exact hn j u hu
    have hone' : ∀ u ∈ M.flatMap en, u.oneCell' = true := fun u hu => by
      obtain ⟨x, _, hx⟩ := List.mem_flatMap.1 hu
      exact List.all_eq_true.1 (hE.one x) u hx
    have hfl : ∀ K : List α, (K.flatMap en).length = K.length * sz := fun K => by
      induction K with
      | nil => simp
      | cons x K ih => rw [List.flatMap_cons, List.length_append, hE.len, ih, List.length_cons, Nat.add_mul]; omega
    have hby2 : (K.length + M.length) * bytes ≤ 140737488355328 := Nat.le_trans (Nat.mul_le_mul (show K.length + M.length ≤ 10000000001 by omega) hE.small) (by decide)
    obtain ⟨v', w', hr, h1, h2, _⟩ := run_append_own (P := Tryz.prog) w base t ty e i _ sz bytes hE.und hi hz hsz' hby hzc hE.pos v K.length _ h ⟨b, 0, none⟩ M.length c (M.flatMap en) (hfl M) hnews hone' (by simp only [maxLen]; omega) hby2 hb
    obtain ⟨a', c', rfl⟩ := row_val h1
    refine ⟨a', _, c', w', hr, ?_, h2⟩
    rw [List.length_append, List.flatMap_append]
    exact h1
theorem bslice31e (w : World) : (bsliceOp 31 0 #[]).run Tryz.prog w = .ok (.value (.slice (some ⟨w.heap.size, 0, none⟩) 0 0)) (w.alloc (.cells #[] 5)) := by kernel_rfl
theorem bslice44e (w : World) : (bsliceOp 44 0 #[]).run Tryz.prog w = .ok (.value (.slice (some ⟨w.heap.size, 0, none⟩) 0 0)) (w.alloc (.cells #[] 65)) := by kernel_rfl
attribute [local go_sem ↓] execOp_slice execOp_convert execOp_build execOp_bslice
attribute [local go_sem] bslice31e bslice44e
/-- The image in force, copied. -/
def ImPost (W : World) (xs : List UInt8) (e : Ending) (V : World) : Prop := ∃ a c, e = .returned (.slice a xs.length c) ∧ Bs V a xs.length xs ∧ W.Extends V
set_option maxRecDepth 20000 in
theorem image_any {O : Own} {W : World} {bs g : Nat} {s : Sv} (h : SvAt O W bs g s) (hl : s.img.length ≤ 1000000) : Calls Tryz.prog 20 #[.pointer (some ⟨bs, 0, none⟩)] W (ImPost W (imgF s)) := by
  obtain ⟨Q, hQ⟩ : ∃ Q : Ending → World → Prop, Q = ImPost W (imgF s) := ⟨_, rfl⟩
  rw [← hQ]
  have HQ := hid_of hQ
  obtain ⟨CS, ip, ia, iN, ic, h⟩ := h
  have hb := h.cell
  have c0 := h.c.c0
  have c1 := h.c.c1
  have l0 : 0 < CS.length := by rw [h.c.len]; omega
  have l1 : 1 < CS.length := by rw [h.c.len]; omega
  cases hi : s.inst with
  | none =>
    obtain ⟨rfl, -, -⟩ := h.no hi
    have HP : Hid (Q (.returned (.slice none 0 0)) W) := by
      show Q _ _
      rw [HQ.out]
      have e : imgF s = [] := by unfold imgF; rw [hi]
      rw [e]
      exact ⟨none, 0, rfl, ⟨rfl, fun h => absurd rfl h, .inl rfl⟩, ext_Ext (Ext.refl _)⟩
    clear hQ h HQ hi
    go_enter Tryz.func20, Tryz.ntmps20
    go_wp2_with fail
    try go_ret
    exact HP.out
  | some t =>
    obtain ⟨B, bi, rfl, -, hA⟩ := h.ins t hi
    have e : imgF s = s.img := by unfold imgF; rw [hi]
    have hin : s.img.length = iN := h.im.1
    have hx1 : W.Extends (W.alloc (.cells #[] 5)) := extends_alloc (ext_Ext (Ext.refl _)) _
    have hbs : Bs (W.alloc (.cells #[] 5)) ia s.img.length s.img := by rw [hin]; exact (h.im.sub (Sub.core _ _)).grow hx1
    have hrow : (W.alloc (.cells #[] 5)).ownsRow W.heap.size 5 1 (.slice (some ⟨W.heap.size, 0, none⟩) 0 0) ([] : List UInt8).length (bv []) := World.ownsRow_made W #[] 0 (Nat.le_refl _) (Nat.zero_le _) rfl
    obtain ⟨a', n', c', V, hrun, ho, hg⟩ := appB W.heap.size (W.alloc (.cells #[] 5)) 31 _ [] s.img ia ic hrow hbs hx1.size (by simp; omega)
    have hn := bs_own ho
    have hbk : blk (W.alloc (.cells #[] 5)) bs = some CS := (hx1.blk (blk_lt hb)).trans hb
    have HP : Hid (Q (.returned (.slice a' n' c')) V) := by
      show Q _ _
      rw [HQ.out, e]
      have e2 : n' = s.img.length := hn.1.1.symm
      rw [e2] at hn ⊢
      exact ⟨a', c', rfl, hn.1, grown_ext hx1 hg (fun k hk => by simp [Value.ownBlock] at hk; omega)⟩
    rw [hin] at hrun
    clear hQ h HQ hi hA hbs hrow ho hg hn hx1 e hin
    go_enter Tryz.func20, Tryz.ntmps20
    go_wp2_with (at_builtin; refine wpList_append_run rfl _ _ 31 rfl _ _ _ _ rfl rfl hrun ?_)
    try go_ret
    exact HP.out
/-- The predicates of the policy in force. -/
def prF (s : Sv) : List PredInfo := match s.inst with
  | none => []
  | some t => t.p.preds
def PrPost (W : World) (K : List PredInfo) (e : Ending) (V : World) : Prop := ∃ a c, e = .returned (.slice a K.length c) ∧ OutG PredInfo.enc 3 65 W V a K.length c K
set_option maxRecDepth 20000 in
theorem predicates_any {O : Own} {W : World} {bs g : Nat} {s : Sv} (h : SvAt O W bs g s) (hl : ∀ t, s.inst = some t → t.p.preds.length ≤ 64) : Calls Tryz.prog 64 #[.pointer (some ⟨bs, 0, none⟩)] W (PrPost W (prF s)) := by
  obtain ⟨Q, hQ⟩ : ∃ Q : Ending → World → Prop, Q = PrPost W (prF s) := ⟨_, rfl⟩
  rw [← hQ]
  have HQ := hid_of hQ
  obtain ⟨CS, ip, ia, iN, ic, h⟩ := h
  have hb := h.cell
  have c0 := h.c.c0
  have l0 : 0 < CS.length := by rw [h.c.len]; omega
  cases hi : s.inst with
  | none =>
    obtain ⟨rfl, -, -⟩ := h.no hi
    have HP : Hid (Q (.returned (.slice none 0 0)) W) := by
      show Q _ _
      rw [HQ.out]
      have e : prF s = [] := by unfold prF; rw [hi]
      rw [e]
      exact ⟨none, 0, rfl, OutG.nil (ext_Ext (Ext.refl _))⟩
    clear hQ h HQ hi hl
    go_enter Tryz.func64, Tryz.ntmps64
    go_wp2_with fail
    try go_ret
    exact HP.out
  | some t =>
    obtain ⟨B, bi, rfl, -, hA⟩ := h.ins t hi
    obtain ⟨CI, bst, be, A, hm⟩ := hA
    have e : prF s = t.p.preds := by unfold prF; rw [hi]
    have hbi := hm.cell
    have li : 1 < CI.length := by rw [hm.ic.len]; omega
    obtain ⟨sp, sd, sr, p0, p1, p2, p3, p4, p5, p6⟩ := hm.ic.pg
    have hln : t.p.preds.length = sd.len := p5.1
    obtain ⟨da, dn, dc⟩ := sd
    simp only [Sl.val] at p1
    have hx1 : W.Extends (W.alloc (.cells #[] 65)) := extends_alloc (ext_Ext (Ext.refl _)) _
    have hsub : Sub (core O W) (W.alloc (.cells #[] 65)) := (Sub.core _ _).trans (fun b C hb => (hx1.blk (blk_lt hb)).trans hb)
    have hrw : Rw PredInfo.enc 3 (W.alloc (.cells #[] 65)) da t.p.preds.length t.p.preds := by rw [hln]; exact p5.sub hsub
    have hrow : (W.alloc (.cells #[] 65)).ownsRow W.heap.size 65 3 (.slice (some ⟨W.heap.size, 0, none⟩) 0 0) ([] : List PredInfo).length (([] : List PredInfo).flatMap PredInfo.enc) := World.ownsRow_made W #[] 0 (Nat.le_refl _) (Nat.zero_le _) rfl
    obtain ⟨a', n', c', V, hrun, ho, hg⟩ := appM el138 W.heap.size (W.alloc (.cells #[] 65)) 44 _ [] t.p.preds da dc hrow hrw hx1.size (by have := hl t hi; simp; omega)
    have hn := (rw_own PredInfo.length_enc ho).1
    have hbk : blk (W.alloc (.cells #[] 65)) bs = some CS := (hx1.blk (blk_lt hb)).trans hb
    have hbki : blk (W.alloc (.cells #[] 65)) bi = some CI := (hx1.blk (blk_lt hbi)).trans hbi
    have HP : Hid (Q (.returned (.slice a' n' c')) V) := by
      show Q _ _
      rw [HQ.out, e]
      have e2 : n' = t.p.preds.length := hn.1.symm
      rw [e2] at ho ⊢
      exact ⟨a', c', rfl, ho, grown_ext hx1 hg (fun k hk => by simp [Value.ownBlock] at hk; omega), rfl⟩
    rw [hln] at hrun
    clear hQ h HQ hi hm hrw hrow ho hg hn hx1 e hln p0 p2 p3 p4 p5 p6 hsub hl
    go_enter Tryz.func64, Tryz.ntmps64
    go_wp2_with (at_builtin; refine wpList_append_run rfl _ _ 44 rfl _ _ _ _ rfl rfl hrun ?_)
    try go_ret
    exact HP.out
end Go.Proofs.Qxb6500787aGreat
