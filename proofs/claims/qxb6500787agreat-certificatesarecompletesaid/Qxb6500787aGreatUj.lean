
import Derived.Test.Qxb6500787aGreatUi
import Derived.StillTailTactics
import Derived.Deep.QuietTactic
import Derived.BigQuiet
import Derived.Deep.RegionHeld
import Derived.Deep.CutRange
import Derived.Laws.ResultCell
import Derived.Laws.Rows
import Derived.DeepKeys
import Derived.DataBytes
import Derived.Laws.StructEq
import Derived.Laws.AppendOwn
import Derived.Laws.MakeOwn
import Derived.Lib.AppendStr
set_option linter.unusedSimpArgs false
set_option linter.unusedVariables false
namespace Go.Proofs.Qxb6500787aGreat
open Go.RowKit Go.Blk
attribute [local go_sem ↓] execOp_load execOp_store execOp_alloc
attribute [local go_sem] Tryz.ld26 Tryz.st26 Tryz.ld27 Tryz.st27 Tryz.ld28 Tryz.st28 Tryz.ld3 Tryz.st3 Tryz.ld29 Tryz.st29 Tryz.ld44 Tryz.st44 Tryz.ld4 Tryz.st4 Tryz.ld50 Tryz.st50 Tryz.ld32 Tryz.st32 Tryz.ld49 Tryz.st49 Tryz.ld68 Tryz.st68 Tryz.ld9 Tryz.st9 Tryz.ld40 Tryz.st40 Tryz.ld138 Tryz.st138 Tryz.ld139 Tryz.st139 Tryz.ld146 Tryz.st146 Tryz.ld183 Tryz.st183 Tryz.ld184 Tryz.st184 Tryz.ld192 Tryz.st192 Tryz.ld195 Tryz.st195 Tryz.ld217 Tryz.st217 Tryz.ld159 Tryz.st159 Tryz.ld142 Tryz.st142 Tryz.ld2 Tryz.st2 Tryz.ld5 Tryz.st5 Tryz.ld12 Tryz.st12 Tryz.ld21 Tryz.st21 Tryz.ld22 Tryz.st22 Tryz.ld24 Tryz.st24 Tryz.ld58 Tryz.st58 Tryz.ld97 Tryz.st97 Tryz.ld101 Tryz.st101 Tryz.ld116 Tryz.st116 Tryz.ld121 Tryz.st121 Tryz.ld135 Tryz.st135 Tryz.ld136 Tryz.st136 Tryz.ld143 Tryz.st143 Tryz.ld148 Tryz.st148 Tryz.ld154 Tryz.st154 Tryz.ld173 Tryz.st173 Tryz.ld187 Tryz.st187 Tryz.ld222 Tryz.st222 Tryz.ld241 Tryz.st241 Tryz.ld248 Tryz.st248 Tryz.ld268 Tryz.st268 Tryz.ld272 Tryz.st272 Tryz.ld153 Tryz.st153 Tryz.ld255 Tryz.st255 Tryz.ld256 Tryz.st256 Tryz.ld129 Tryz.st129 Tryz.ld152 Tryz.st152 Tryz.ld31 Tryz.st31 Tryz.ld46 Tryz.st46 Tryz.ld52 Tryz.st52 Tryz.ld54 Tryz.st54 Tryz.ld60 Tryz.st60 Tryz.ld70 Tryz.st70 Tryz.ld74 Tryz.st74 Tryz.ld93 Tryz.st93 Tryz.ld141 Tryz.st141 Tryz.ld151 Tryz.st151 Tryz.ld170 Tryz.st170 Tryz.ld186 Tryz.st186 Tryz.ld189 Tryz.st189 Tryz.ld194 Tryz.st194 Tryz.ld197 Tryz.st197 Tryz.ld219 Tryz.st219 Tryz.ld224 Tryz.st224 Tryz.ld230 Tryz.st230 Tryz.ld235 Tryz.st235 Tryz.ld243 Tryz.st243 Tryz.ld247 Tryz.st247 Tryz.ld252 Tryz.st252 Tryz.ld258 Tryz.st258 Tryz.al153 Tryz.al255 Tryz.al256 Tryz.al129 Tryz.al152 Tryz.al31 Tryz.al46 Tryz.al52 Tryz.al54 Tryz.al60 Tryz.al70 Tryz.al74 Tryz.al93 Tryz.al141 Tryz.al151 Tryz.al170 Tryz.al186 Tryz.al189 Tryz.al194 Tryz.al197 Tryz.al219 Tryz.al224 Tryz.al230 Tryz.al235 Tryz.al243 Tryz.al247 Tryz.al252 Tryz.al258
attribute [local go_sem] Request.length_enc Request.ok_enc Request.all_get Request.all_set Request.kind_get Request.kind_set Request.blob_get Request.blob_set Request.items_get Request.items_set Request.pred_get Request.pred_set Request.slots_get Request.slots_set Trace.length_enc Trace.ok_enc Trace.all_get Trace.all_set Trace.op_get Trace.op_set Trace.calls_get Trace.calls_set Item.length_enc Item.ok_enc Item.all_get Item.all_set Item.del_get Item.del_set Item.pred_get Item.pred_set Item.args_get Item.args_set Reply.length_enc Reply.ok_enc Reply.all_get Reply.all_set Reply.code_get Reply.code_set Reply.kind_get Reply.kind_set Reply.index_get Reply.index_set Reply.yes_get Reply.yes_set Reply.preds_get Reply.preds_set Reply.rules_get Reply.rules_set Reply.arity_get Reply.arity_set Reply.rows_get Reply.rows_set Reply.fact_get Reply.fact_set Reply.fact_del_get Reply.fact_del_set Reply.fact_pred_get Reply.fact_pred_set Reply.fact_args_get Reply.fact_args_set GEntry.length_enc GEntry.ok_enc GEntry.all_get GEntry.all_set GEntry.seq_get GEntry.seq_set GEntry.kind_get GEntry.kind_set GEntry.code_get GEntry.code_set GOp.length_enc GOp.ok_enc GOp.all_get GOp.all_set GOp.kind_get GOp.kind_set GOp.raw_get GOp.raw_set Reader.length_enc Reader.ok_enc Reader.all_get Reader.all_set Reader.buf_get Reader.buf_set Reader.at__get Reader.at__set Slot.length_enc Slot.ok_enc Slot.all_get Slot.all_set Slot.bound_get Slot.bound_set Slot.name_get Slot.name_set Session.length_enc Session.ok_enc Session.all_get Session.all_set Session.svc_get Session.svc_set Session.buf_get Session.buf_set Session.closed_get Session.closed_set GProgram.length_enc GProgram.ok_enc GProgram.all_get GProgram.all_set GProgram.pool_get GProgram.pool_set GProgram.preds_get GProgram.preds_set GProgram.rules_get GProgram.rules_set GProgram.strata_get GProgram.strata_set PredInfo.length_enc PredInfo.ok_enc PredInfo.all_get PredInfo.all_set PredInfo.arity_get PredInfo.arity_set PredInfo.base_get PredInfo.base_set PredInfo.stratum_get PredInfo.stratum_set Change.length_enc Change.ok_enc Change.all_get Change.all_set Change.del_get Change.del_set Change.pred_get Change.pred_set Change.t_get Change.t_set Store.length_enc Store.ok_enc Store.all_get Store.all_set Store.names_get Store.names_set Store.arity_get Store.arity_set Store.rows_get Store.rows_set Src.length_enc Src.ok_enc Src.all_get Src.all_set Src.b_get Src.b_set Src.at__get Src.at__set Atom.length_enc Atom.ok_enc Atom.all_get Atom.all_set Atom.pred_get Atom.pred_set Atom.args_get Atom.args_set GRule.length_enc GRule.ok_enc GRule.all_get GRule.all_set GRule.head_get GRule.head_set GRule.body_get GRule.body_set GRule.head_pred_get GRule.head_pred_set GRule.head_args_get GRule.head_args_set Cert.length_enc Cert.ok_enc Cert.all_get Cert.all_set Cert.names_get Cert.names_set Cert.nodes_get Cert.nodes_set Fact.length_enc Fact.ok_enc Fact.all_get Fact.all_set Fact.pred_get Fact.pred_set Fact.t_get Fact.t_set Literal.length_enc Literal.ok_enc Literal.all_get Literal.all_set Literal.neg_get Literal.neg_set Literal.atom_get Literal.atom_set Literal.atom_pred_get Literal.atom_pred_set Literal.atom_args_get Literal.atom_args_set Engine.length_enc Engine.ok_enc Engine.all_get Engine.all_set Engine.prog_get Engine.prog_set Engine.st_get Engine.st_set SrcCertm.length_enc SrcCertm.ok_enc SrcCertm.all_get SrcCertm.all_set SrcCertm.b_get SrcCertm.b_set SrcCertm.at__get SrcCertm.at__set GNode.length_enc GNode.ok_enc GNode.all_get GNode.all_set GNode.rule_get GNode.rule_set GNode.pred_get GNode.pred_set GNode.vals_get GNode.vals_set GNode.refs_get GNode.refs_set Term.length_enc Term.ok_enc Term.all_get Term.all_set Term.var_get Term.var_set Term.n_get Term.n_set Env.length_enc Env.ok_enc Env.all_get Env.all_set Env.val_get Env.val_set Env.set_get Env.set_set
attribute [local go_sem] size_put size_ext blk_put free_put blk_alloc free_alloc blk_drew free_drew blk_ext free_ext lookOr_some putOr_some segAt_some cellAt_some storeIn_some put_put put_alloc_new length_arr ok_arr_u8 ok_arr_u32 ok_arr_u64 ok_arr_i64 ok_arr_sl cellsV_agg cellsV_int cellsV_bool cellsV_string cellsV_pointer cellsV_slice cellsV_sl ok_int ok_bool ok_string ok_pointer ok_slice ok_sl toList_arr seg_arr set_arr nth_splice nth_splice0 seg_splice seg_splice0 splice_splice splice_splice0 length_splice_if
attribute [local go_sem ↓] execOp_box
attribute [local go_sem] box_run nth_arr_u8 put_arr_u8 blk_drewN free_drewN put_drewN blk_raw free_raw
theorem PgA.ruleAt {B : Nat} {O : Own} {V : World} {bp : Nat} {Ce : List Value} {p : PP} (h : PgA B O V bp Ce p) {i : Nat} {r : PR} (hr : p.rules[i]? = some r) : ∃ b C x c, nth Ce 2 = some (.slice (some ⟨b, 0, none⟩) p.rules.length c) ∧ blk V b = some C ∧ i * 3 + 2 < C.length ∧ nth C (i * 3) = some (.int .i64 (r.head.pred : Int)) ∧ nth C (i * 3 + 2) = some (.slice x.body.a r.body.length x.body.cap) ∧ RuleC V x r ∧ seg C (i * 3) 3 = x.enc := by
  obtain ⟨Ce', pa, pc, da, dc, ra, rc, z1, z2, z3, z4, z5, z6, z7, z8, z9⟩ := h.progC.cells
  obtain rfl : Ce = Ce' := Option.some.inj (h.cell.symm.trans z1)
  obtain ⟨b, C, y, d1, d2, d3, d4, d5, d6⟩ := z9 i r hr
  have hlen : y.body.len = r.body.length := by obtain ⟨_, Ls, g1, g2, _⟩ := d6; rw [← g2]; exact g1.1.symm
  exact ⟨b, C, y, rc, by rw [z5, d1], d2, by omega, d5, by rw [← hlen]; exact nth_in (j := 2) d4 rfl (by omega), d6, d4⟩
theorem PgA.predAt {B : Nat} {O : Own} {V : World} {bp : Nat} {Ce : List Value} {p : PP} (h : PgA B O V bp Ce p) {q : Nat} {x : PredInfo} (hx : p.preds[q]? = some x) : ∃ g C c, nth Ce 1 = some (.slice (some ⟨g, 0, none⟩) p.preds.length c) ∧ blk V g = some C ∧ q * 3 + 2 < C.length ∧ nth C (q * 3 + 2) = some (.int .i64 x.stratum) ∧ nth C (q * 3 + 1) = some (.bool x.base) := by
  obtain ⟨Ce', pa, pc, da, dc, ra, rc, z1, z2, z3, z4, z5, z6, z7, z8, z9⟩ := h.progC.cells
  obtain rfl : Ce = Ce' := Option.some.inj (h.cell.symm.trans z1)
  obtain ⟨bd, Cd, d1, d2, d3, d4, d5, d6, d7⟩ := pred_at z8 hx
  exact ⟨bd, Cd, dc, by rw [z4, d1], d2, by omega, d6, d5⟩
theorem GRule_inj {x y : GRule} (h : x.enc = y.enc) : x = y := by
  obtain ⟨⟨p1, a1, n1, c1⟩, a2, n2, c2⟩ := x
  obtain ⟨⟨p2, a3, n3, c3⟩, a4, n4, c4⟩ := y
  have h1 : [Value.int .i64 p1, .slice a1 n1 c1, .slice a2 n2 c2] = [Value.int .i64 p2, .slice a3 n3 c3, .slice a4 n4 c4] := h
  injection h1 with e1 h1
  injection h1 with e2 h1
  injection h1 with e3 _
  injection e1 with _ e1
  injection e2 with e4 e5 e6
  injection e3 with e7 e8 e9
  subst e1 e4 e5 e6 e7 e8 e9
  rfl
theorem set_same {α : Type} : ∀ {l : List α} {i : Nat} {x : α}, l[i]? = some x → l.set i x = l
  | [], _, _, h => by simp at h
  | y :: l, 0, x, h => by
    have e : y = x := by simpa using h
    rw [e]; rfl
  | y :: l, i + 1, x, h => by
    rw [List.set_cons_succ, set_same (by simpa using h)]
/-- A program that can be stratified safely. -/
structure Sane (p : PP) : Prop where
  nD : p.preds.length ≤ 64
  nR : p.rules.length ≤ 128
  hd : ∀ r ∈ p.rules, r.head.pred < p.preds.length ∧ r.body.length ≤ 8 ∧ ∀ l ∈ r.body, l.atom.pred < p.preds.length
  s0 : ∀ y ∈ p.preds, y.stratum = 0
def StPost (B : Nat) (O : Own) (W : World) (bp : Nat) (p : PP) (e : Ending) (V : World) : Prop := ∃ res, StTo p.preds.length p.rules p.preds res ∧ Fr isP O W O V ∧ ((res = none ∧ e = .returned (.bool false)) ∨ ∃ ps, res = some ps ∧ ps.length = p.preds.length ∧ IB 63 ps ∧ e = .returned (.bool true) ∧ ∃ Ce, PgA B O V bp Ce ⟨p.pool, ps, p.rules, maxS ps⟩)
def s1I (B : Nat) (O : Own) (W : World) (bp : Nat) (Ce : List Value) (p : PP) (n : Nat) (f : Nat → Value) (V : World) : Prop := f 0 = .pointer (some ⟨bp, 0, none⟩) ∧ ∃ i : Nat, i ≤ n ∧ f 3 = .int .i64 (i : Nat) ∧ Hid (Fr isP O W O V ∧ PgA B O V bp Ce p)
def s2P (B : Nat) (O : Own) (W : World) (bp : Nat) (Ce : List Value) (p : PP) (m : Nat) (ra : Bool) (V : World) : Prop := ∃ ps, Fr isP O W O V ∧ PgA B O V bp Ce ⟨p.pool, ps, p.rules, p.strata⟩ ∧ ps.length = p.preds.length ∧ IB 63 ps ∧ (ra = true → ∀ res, StTo p.preds.length p.rules ps res → StTo p.preds.length p.rules p.preds res) ∧ (ra = false → StTo p.preds.length p.rules p.preds (some ps)) ∧ m = 2 * (4096 - sumS ps) + if ra then 1 else 0
def s2I (B : Nat) (O : Own) (W : World) (bp : Nat) (Ce : List Value) (p : PP) (m : Nat) (f : Nat → Value) (V : World) : Prop := f 0 = .pointer (some ⟨bp, 0, none⟩) ∧ ∃ ra : Bool, f 4 = .bool ra ∧ Hid (s2P B O W bp Ce p m ra V)
def s3P (B : Nat) (O : Own) (W : World) (bp : Nat) (Ce : List Value) (p : PP) (ps0 : List PredInfo) (i : Nat) (ra : Bool) (V : World) : Prop := ∃ ps, Fr isP O W O V ∧ PgA B O V bp Ce ⟨p.pool, ps, p.rules, p.strata⟩ ∧ ps.length = p.preds.length ∧ IB 63 ps ∧ stRd p.preds.length p.rules (ps0, false) = stRd p.preds.length (p.rules.drop i) (ps, ra) ∧ sumS ps0 ≤ sumS ps ∧ (ra = true → sumS ps0 < sumS ps)
def s3I (B : Nat) (O : Own) (W : World) (bp : Nat) (Ce : List Value) (p : PP) (ps0 : List PredInfo) (nr : Nat) (f : Nat → Value) (V : World) : Prop := f 0 = .pointer (some ⟨bp, 0, none⟩) ∧ ∃ (i : Nat) (ra : Bool), i ≤ nr ∧ f 4 = .bool ra ∧ f 5 = .int .i64 (i : Nat) ∧ Hid (s3P B O W bp Ce p ps0 i ra V)
def s4P (B : Nat) (O : Own) (W : World) (bp : Nat) (Ce : List Value) (p : PP) (ps0 : List PredInfo) (h : Nat) (r : PR) (X0 : List PredInfo × Bool) (k : Nat) (ra : Bool) (V : World) : Prop := ∃ ps, Fr isP O W O V ∧ PgA B O V bp Ce ⟨p.pool, ps, p.rules, p.strata⟩ ∧ ps.length = p.preds.length ∧ IB (63 + (k : Int)) ps ∧ (r.body.take k).foldl (stL h) X0 = (ps, ra) ∧ (∀ j, j ≠ h → ps[j]? = X0.1[j]?) ∧ sumS ps0 ≤ sumS ps ∧ (ra = true → sumS ps0 < sumS ps)
def s4I (B : Nat) (O : Own) (W : World) (bp : Nat) (Ce : List Value) (p : PP) (ps0 : List PredInfo) (i h : Nat) (r : PR) (X0 : List PredInfo × Bool) (bl : Nat) (f : Nat → Value) (V : World) : Prop := f 0 = .pointer (some ⟨bp, 0, none⟩) ∧ f 5 = .int .i64 (i : Nat) ∧ f 6 = .int .i64 (h : Nat) ∧ ∃ (k : Nat) (ra : Bool), k ≤ bl ∧ f 4 = .bool ra ∧ f 7 = .int .i64 (k : Nat) ∧ Hid (s4P B O W bp Ce p ps0 h r X0 k ra V)
def s5I (B : Nat) (O : Own) (W : World) (bp : Nat) (p : PP) (ps : List PredInfo) (n : Nat) (f : Nat → Value) (V : World) : Prop := f 0 = .pointer (some ⟨bp, 0, none⟩) ∧ ∃ i : Nat, i ≤ n ∧ f 9 = .int .i64 (i : Nat) ∧ Hid (∃ Ce, Fr isP O W O V ∧ PgA B O V bp Ce ⟨p.pool, ps, p.rules, maxS (ps.take i)⟩ ∧ 0 ≤ maxS (ps.take i) ∧ maxS (ps.take i) ≤ 65)
theorem maxS_take {ps : List PredInfo} {i : Nat} {y : PredInfo} (h : ps[i]? = some y) : maxS (ps.take (i + 1)) = if maxS (ps.take i) < y.stratum + 1 then y.stratum + 1 else maxS (ps.take i) := by
  unfold maxS
  rw [take_at h, List.foldl_append]; rfl
set_option maxRecDepth 100000 in
theorem frame162s (f : Nat → Value) : frameN 162 f = #[f 0, f 1, f 2, f 3, f 4, f 5, f 6, f 7, f 8, f 9, f 10, f 11, f 12, f 13, f 14, f 15, f 16, f 17, f 18, f 19, f 20, f 21, f 22, f 23, f 24, f 25, f 26, f 27, f 28, f 29, f 30, f 31, f 32, f 33, f 34, f 35, f 36, f 37, f 38, f 39, f 40, f 41, f 42, f 43, f 44, f 45, f 46, f 47, f 48, f 49, f 50, f 51, f 52, f 53, f 54, f 55, f 56, f 57, f 58, f 59, f 60, f 61, f 62, f 63, f 64, f 65, f 66, f 67, f 68, f 69, f 70, f 71, f 72, f 73, f 74, f 75, f 76, f 77, f 78, f 79, f 80, f 81, f 82, f 83, f 84, f 85, f 86, f 87, f 88, f 89, f 90, f 91, f 92, f 93, f 94, f 95, f 96, f 97, f 98, f 99, f 100, f 101, f 102, f 103, f 104, f 105, f 106, f 107, f 108, f 109, f 110, f 111, f 112, f 113, f 114, f 115, f 116, f 117, f 118, f 119, f 120, f 121, f 122, f 123, f 124, f 125, f 126, f 127, f 128, f 129, f 130, f 131, f 132, f 133, f 134, f 135, f 136, f 137, f 138, f 139, f 140, f 141, f 142, f 143, f 144, f 145, f 146, f 147, f 148, f 149, f 150, f 151, f 152, f 153, f 154, f 155, f 156, f 157, f 158, f 159, f 160, f 161] := by kernel_rfl
set_option maxRecDepth 40000 in
set_option maxHeartbeats 8000000 in
theorem stratify_any {B : Nat} {O : Own} {W : World} {bp : Nat} {Ce : List Value} {p : PP} (h : PgA B O W bp Ce p) (hs : Sane p) : Calls Tryz.prog 76 #[.pointer (some ⟨bp, 0, none⟩)] W (StPost B O W bp p) := by
  obtain ⟨Q, hQ⟩ : ∃ Q, Q = StPost B O W bp p := ⟨_, rfl⟩
  rw [← hQ]
  have HQ := hid_of hQ
  have HS := hid_of hs
  have HA := hid_of h
  have h64 := hs.nD
  have h128 := hs.nR
  obtain ⟨n, hn⟩ : ∃ n, n = p.preds.length := ⟨_, rfl⟩
  obtain ⟨nr, hnr⟩ : ∃ nr, nr = p.rules.length := ⟨_, rfl⟩
  rw [← hn] at h64
  rw [← hnr] at h128
  have HN := hid_of hn
  have HNR := hid_of hnr
  have c1 : ∃ a c, nth Ce 1 = some (.slice a n c) := by obtain ⟨a, c, g, _⟩ := h.pk.preds; exact ⟨a, c, by rw [hn]; exact g⟩
  have c2 : ∃ a c, nth Ce 2 = some (.slice a nr c) := by obtain ⟨a, c, _, g, _⟩ := h.pk.rules; exact ⟨a, c, by rw [hnr]; exact g⟩
  obtain ⟨da, dc, c1⟩ := c1
  obtain ⟨ra0, rc0, c2⟩ := c2
  have cl : Ce.length = 4 := h.pk.len
  have l1 : 1 < Ce.length := by omega
  have l2 : 2 < Ce.length := by omega
  have l3 : 3 < Ce.length := by omega
  have l3' : 3 + 1 ≤ Ce.length := by omega
  have HC1 := hid_of c1
  have HC2 := hid_of c2
  have HI0 : Hid (Fr isP O W O W ∧ PgA B O W bp Ce p) := ⟨Fr.refl _ _ _, h⟩
  clear hQ hs h hn hnr cl
  go_enter Tryz.func76, Tryz.ntmps76
  go_upto_region 2 with fail
  refine wp_loop_f 162 (s1I B O W bp Ce p n) (fun f _ => n - (intOf (f 3)).toNat) rfl ⟨rfl, 0, by omega, rfl, HI0⟩ ?_
  clear HI0
  intro F V hrel
  obtain ⟨f0, i, hi, f3, HI⟩ := hrel
  have H3 := hid_of f3
  rw [frame162s, f0, f3]
  clear f0 f3
  obtain ⟨hF, hA⟩ := HI.out
  have hbp := hA.cell
  by_cases hin : i < n
  · have hin' : (i : Int) < (n : Int) := by omega
    have i0 : (0 : Int) ≤ (i : Int) := by omega
    have i2 : ((i : Int)).toNat = i := by omega
    obtain ⟨x, hx⟩ : ∃ x, p.preds[i]? = some x := ⟨_, List.getElem?_eq_getElem (by rw [← HN.out]; exact hin)⟩
    obtain ⟨g, C, c, g1, g2, g3, g4, g5, g6, g7⟩ := hA.set hx 0
    have hx0 : (⟨x.arity, x.base, 0⟩ : PredInfo) = x := by
      have h9 := HS.out.s0 x (List.mem_of_getElem? hx)
      obtain ⟨u, v, w⟩ := x
      dsimp only at h9 ⊢
      rw [h9]
    rw [hx0, set_same hx] at g7
    have HI' : Hid (Fr isP O W O (put V g (splice C (i * 3 + 2) [.int .i64 0])) ∧ PgA B O (put V g (splice C (i * 3 + 2) [.int .i64 0])) bp Ce p) := ⟨hF.trans g6, g7⟩
    have g8 : nth Ce 1 = some (.slice (some ⟨g, 0, none⟩) n c) := by rw [HN.out]; exact g1
    have m2 : i * 3 + 2 < C.length := by omega
    have m3 : i * 3 + 2 + 1 ≤ C.length := by omega
    clear HI hF hA hx g1 g5 g6 g7 hx0 c1
    go_wp2_with fail
    refine ⟨rfl, rfl, ⟨rfl, i + 1, by omega, ?_, HI'⟩, ?_⟩
    · show Value.int .i64 _ = _
      go_num
    · show n - (intOf (Value.int .i64 _)).toNat < n - (intOf (F 3)).toNat
      rw [H3.out]
      simp [intOf]; omega
  have hin' : ¬ (i : Int) < (n : Int) := by omega
  have hl0 : IB 63 p.preds := fun y hy => by rw [HS.out.s0 y hy]; omega
  obtain ⟨m0, hm0⟩ : ∃ m0, m0 = 2 * (4096 - sumS p.preds) + if true then 1 else 0 := ⟨_, rfl⟩
  have HI2 : Hid (s2P B O W bp Ce p m0 true V) := ⟨p.preds, hF, hA, rfl, hl0, fun _ _ h => h, fun h => (by cases h), hm0⟩
  clear HI hF hA hl0 H3 hm0
  go_upto_region 6 with fail
  refine wp_loop_ix 162 (s2I B O W bp Ce p) m0 rfl ⟨rfl, true, rfl, HI2⟩ ?_
  clear HI2 m0 hbp
  intro m F V hrel μ HMU
  obtain ⟨f0, ra, f4, HI⟩ := hrel
  rw [frame162s, f0, f4]
  clear f0 f4
  obtain ⟨ps, hF, hA, hpl, hIB, hct, hdn, hm⟩ := HI.out
  have HF := hid_of hF
  have HAv := hid_of hA
  have HPL := hid_of hpl
  have HIB := hid_of hIB
  cases ra with
  | false =>
    have HST := hid_of (hdn rfl)
    have hbp := hA.cell
    have hfp := hA.fre
    have h9 := hA.setS 1
    have HJ0 : Hid (∃ Cf, Fr isP O W O (put V bp (splice Ce 3 [.int .i64 1])) ∧ PgA B O (put V bp (splice Ce 3 [.int .i64 1])) bp Cf ⟨p.pool, ps, p.rules, maxS (ps.take 0)⟩ ∧ 0 ≤ maxS (ps.take 0) ∧ maxS (ps.take 0) ≤ 65) := ⟨_, hF.trans h9.1, h9.2, by show (0 : Int) ≤ 1; omega, by show (1 : Int) ≤ 65; omega⟩
    clear HI hF hA hpl hIB hct hdn hm h9
    go_upto_region 25 with fail
    refine wp_world (fun V => ∃ Ce, Fr isP O W O V ∧ PgA B O V bp Ce ⟨p.pool, ps, p.rules, maxS (ps.take 0)⟩ ∧ 0 ≤ maxS (ps.take 0) ∧ maxS (ps.take 0) ≤ 65) HJ0.out ?_
    intro V5 HV5
    have HJ := hid_of HV5
    clear HV5 HJ0 hbp hfp HMU HC1 HC2 c1 c2 HF HAv
    refine wp_loop_f 162 (s5I B O W bp p ps n) (fun f _ => n - (intOf (f 9)).toNat) rfl ⟨rfl, 0, by omega, rfl, HJ⟩ ?_
    clear HJ
    intro F2 V2 hrel
    obtain ⟨f0, j, hj, f9, HJ⟩ := hrel
    have H9 := hid_of f9
    rw [frame162s, f0, f9]
    clear f0 f9
    obtain ⟨Cf, hF, hA, hm0, hm65⟩ := HJ.out
    have hbp := hA.cell
    have hfp := hA.fre
    have d1 : ∃ a c, nth Cf 1 = some (.slice a n c) := by obtain ⟨a, c, g, _⟩ := hA.pk.preds; exact ⟨a, c, by rw [HN.out, ← HPL.out]; exact g⟩
    obtain ⟨da, dc, d1⟩ := d1
    have hCl := hA.pk.len
    have d3 := hA.pk.strata
    have q1 : 1 < Cf.length := by omega
    have q3 : 3 < Cf.length := by omega
    have q4 : 3 + 1 ≤ Cf.length := by omega
    by_cases hjn : j < n
    · have hjn' : (j : Int) < (n : Int) := by omega
      have j0 : (0 : Int) ≤ (j : Int) := by omega
      have j2 : ((j : Int)).toNat = j := by omega
      obtain ⟨y, hy⟩ : ∃ y, ps[j]? = some y := ⟨_, List.getElem?_eq_getElem (by rw [HPL.out, ← HN.out]; exact hjn)⟩
      obtain ⟨g, C, c, g1, g2, g3, g4, _⟩ := hA.predAt hy
      have g8 : nth Cf 1 = some (.slice (some ⟨g, 0, none⟩) n c) := by rw [HN.out, ← HPL.out]; exact g1
      have hyb := HIB.out y (List.mem_of_getElem? hy)
      have hmx := maxS_take hy
      obtain ⟨ys, hys⟩ : ∃ ys, ys = y.stratum := ⟨_, rfl⟩
      obtain ⟨mx, hmx'⟩ : ∃ mx, mx = maxS (ps.take j) := ⟨_, rfl⟩
      rw [← hys] at g4 hyb
      rw [← hys, ← hmx'] at hmx
      rw [← hmx'] at hm0 hm65 d3
      have hw1 : IntKind.i64.wrap (ys + 1) = ys + 1 := by rw [IntKind.wrap_i64]; omega
      have hss := hA.setS (ys + 1)
      rw [show (⟨p.pool, ps, p.rules, maxS (ps.take j)⟩ : PP).preds = ps from rfl] at hss
      by_cases hlt : mx < ys + 1
      · rw [if_pos hlt] at hmx
        have HJ' : Hid (∃ Ce, Fr isP O W O (put V2 bp (splice Cf 3 [.int .i64 (ys + 1)])) ∧ PgA B O (put V2 bp (splice Cf 3 [.int .i64 (ys + 1)])) bp Ce ⟨p.pool, ps, p.rules, maxS (ps.take (j + 1))⟩ ∧ 0 ≤ maxS (ps.take (j + 1)) ∧ maxS (ps.take (j + 1)) ≤ 65) := by
          rw [hmx]
          exact ⟨_, hF.trans hss.1, hss.2, by omega, by omega⟩
        have HG : Hid (∀ V', V2 = V' → V' = V2) := fun _ h => h.symm
        clear HJ hF hA hmx hys hmx' hss g1 hm0 hm65 d1 HG hCl
        go_upto_region 27 with fail
        go_quiet (fail)
        have hbp9 : blk (V2.drewN nq) bp = some Cf := hbp
        have hfp9 : free (V2.drewN nq) bp = true := hfp
        have g29 : blk (V2.drewN nq) g = some C := g2
        go_wp2_with fail
        refine ⟨rfl, rfl, ⟨rfl, j + 1, by omega, ?_, ?_⟩, ?_⟩
        · show Value.int .i64 _ = _
          go_num
        · obtain ⟨Cf', h1, h2, h3, h4⟩ := HJ'.out
          exact ⟨Cf', h1.drewN _, h2.drewN _, h3, h4⟩
        · show n - (intOf (Value.int .i64 _)).toNat < n - (intOf (F2 9)).toNat
          rw [H9.out]
          simp [intOf]; omega
      · rw [if_neg hlt] at hmx
        have HJ' : Hid (∃ Ce, Fr isP O W O V2 ∧ PgA B O V2 bp Ce ⟨p.pool, ps, p.rules, maxS (ps.take (j + 1))⟩ ∧ 0 ≤ maxS (ps.take (j + 1)) ∧ maxS (ps.take (j + 1)) ≤ 65) := by
          rw [hmx, hmx']
          exact ⟨_, hF, hA, by omega, by omega⟩
        clear HJ hF hA hmx hys hmx' hss g1 hm0 hm65 d1 hCl
        go_upto_region 27 with fail
        go_quiet (fail)
        go_wp2_with fail
        refine ⟨rfl, rfl, ⟨rfl, j + 1, by omega, ?_, ?_⟩, ?_⟩
        · show Value.int .i64 _ = _
          go_num
        · obtain ⟨Cf', h1, h2, h3, h4⟩ := HJ'.out
          exact ⟨Cf', h1.drewN _, h2.drewN _, h3, h4⟩
        · show n - (intOf (Value.int .i64 _)).toNat < n - (intOf (F2 9)).toNat
          rw [H9.out]
          simp [intOf]; omega
    · have hjn' : ¬ (j : Int) < (n : Int) := by omega
      have HP : Hid (Q (.returned (.bool true)) V2) := by
        show Q _ _
        rw [HQ.out]
        rw [List.take_of_length_le (by rw [HPL.out, ← HN.out]; omega)] at hA
        exact ⟨_, HST.out, hF, .inr ⟨ps, rfl, HPL.out, HIB.out, rfl, _, hA⟩⟩
      clear HJ hF hA hm0 hm65 d3
      go_wp2_with fail
      try go_ret
      exact HP.out
  | true =>
    have HCT := hid_of (hct rfl)
    have HM : Hid (m = 2 * (4096 - sumS ps) + 1) := hm
    have HI3 : Hid (s3P B O W bp Ce p ps 0 false V) := ⟨ps, hF, hA, hpl, hIB, rfl, Nat.le_refl _, fun h => by cases h⟩
    clear HI hF hA hpl hIB hct hdn hm HF HAv HPL HIB
    go_upto_region 9 with fail
    refine wp_loop_f 162 (s3I B O W bp Ce p ps nr) (fun f _ => nr - (intOf (f 5)).toNat) rfl ⟨rfl, 0, false, by omega, rfl, rfl, HI3⟩ ?_
    clear HI3
    intro F3 V3 hrel
    obtain ⟨f0, i, ra, hi, f4, f5, HI3⟩ := hrel
    have H5 := hid_of f5
    rw [frame162s, f0, f4, f5]
    clear f0 f4 f5
    obtain ⟨ps3, hF, hA, hpl, hIB, hrd, hsu, hst⟩ := HI3.out
    have hbp := hA.cell
    by_cases hin : i < nr
    rotate_left 1
    · have hin' : ¬ (i : Int) < (nr : Int) := by omega
      rw [List.drop_of_length_le (by rw [← HNR.out]; omega)] at hrd
      have hrd' : stRd p.preds.length p.rules (ps, false) = some (ps3, ra) := hrd
      have hb := sumS_le ps3 (m := 63) hIB
      have hb2 : sumS ps3 ≤ 64 * 63 := Nat.le_trans hb (Nat.mul_le_mul_right _ (by rw [hpl, ← HN.out]; exact h64))
      obtain ⟨m1, hm1⟩ : ∃ m1, m1 = 2 * (4096 - sumS ps3) + if ra then 1 else 0 := ⟨_, rfl⟩
      have HI2 : Hid (s2P B O W bp Ce p m1 ra V3) := ⟨ps3, hF, hA, hpl, hIB, fun e res h => HCT.out res (.more (by rw [hrd', e]) h), fun e => HCT.out _ (.done (by rw [hrd', e])), hm1⟩
      have HLT : Hid (m1 < m) := by
        show m1 < m
        rw [hm1, HM.out]
        cases ra with
        | true =>
          have := hst rfl
          rw [if_pos rfl]; omega
        | false => rw [if_neg (by decide)]; omega
      clear HI3 hF hA hpl hIB hrd hrd' hsu hst hb hb2 hm1
      go_wp2_with fail
      exact ⟨rfl, rfl, ⟨m1, ⟨rfl, ra, rfl, HI2⟩⟩, HMU.out m1 _ _ ⟨rfl, ra, rfl, HI2⟩ HLT.out⟩
    have hin' : (i : Int) < (nr : Int) := by omega
    have i0 : (0 : Int) ≤ (i : Int) := by omega
    have i2 : ((i : Int)).toNat = i := by omega
    obtain ⟨r, hr⟩ : ∃ r, p.rules[i]? = some r := ⟨_, List.getElem?_eq_getElem (by rw [← HNR.out]; exact hin)⟩
    obtain ⟨hh1, hh2, hh3⟩ := HS.out.hd r (List.mem_of_getElem? hr)
    obtain ⟨bR, CR, xr, rc, r1, r2, r3, r4, r5, r6, r7⟩ := hA.ruleAt (i := i) (r := r) hr
    have r8 : nth Ce 2 = some (.slice (some ⟨bR, 0, none⟩) nr rc) := by rw [HNR.out]; exact r1
    have hdr : p.rules.drop i = r :: p.rules.drop (i + 1) := by
      obtain ⟨hlt, he⟩ := List.getElem?_eq_some_iff.1 hr
      rw [← he]; exact List.drop_eq_getElem_cons hlt
    obtain ⟨h, hh⟩ : ∃ h, h = r.head.pred := ⟨_, rfl⟩
    obtain ⟨bl, hbl⟩ : ∃ bl, bl = r.body.length := ⟨_, rfl⟩
    have HH := hid_of hh
    have HBL := hid_of hbl
    have hhn : h < n := by rw [hh, HN.out]; exact hh1
    rw [← hh] at r4
    rw [← hbl] at r5 hh2
    have hdr2 : stRd p.preds.length (p.rules.drop i) (ps3, ra) = if (p.preds.length : Int) ≤ stO (stR (ps3, ra) r).1 h then none else stRd p.preds.length (p.rules.drop (i + 1)) (stR (ps3, ra) r) := by rw [hdr, hh]; rfl
    rw [hdr2] at hrd
    have HRD := hid_of hrd
    have HH3 := hid_of hh3
    have HIB3 := hid_of hIB
    have HPL3 := hid_of hpl
    have HR := hid_of hr
    have hrno : ∀ V', Fr isP O W O V' → blk V' bR = some CR := by
      obtain ⟨a3, c3, Rs, g5, g6, g7⟩ := HA.out.pk.rules
      obtain ⟨y, hy⟩ : ∃ y, Rs[i]? = some y := ⟨_, List.getElem?_eq_getElem (by rw [g7.1]; exact (List.getElem?_eq_some_iff.1 hr).1)⟩
      obtain ⟨b9, C9, k1, k2, _, _⟩ := g6.2 i y hy
      obtain ⟨k3, k4⟩ := core_blk k2
      have e1 : some (Value.slice a3 p.rules.length c3) = some (Value.slice (some ⟨bR, 0, none⟩) p.rules.length rc) := g5.symm.trans r1
      have e2 := (Value.slice.inj (Option.some.inj e1)).1
      rw [k1] at e2
      have e3 : b9 = bR := congrArg Addr.block (Option.some.inj e2)
      subst e3
      intro V' hF'
      have h1 := hF'.blk k3 (by rw [k4]; exact isP_no)
      have h2 := hF.blk k3 (by rw [k4]; exact isP_no)
      rw [h1, ← h2, r2]
    have HRN := hid_of hrno
    have HI4 : Hid (s4P B O W bp Ce p ps h r (ps3, ra) 0 ra V3) := ⟨ps3, hF, hA, hpl, hIB.mono (by omega), rfl, fun _ _ => rfl, hsu, hst⟩
    have HLV : Hid (∀ V' Ce' q, Fr isP O W O V' → PgA B O V' bp Ce' q → q.rules = p.rules → RuleC V' xr r) := by
      intro V' Ce' q hF' hA' hq
      obtain ⟨b9, C9, x9, c9, k1, k2, k3, k4, k5, k6, k7⟩ := hA'.ruleAt (i := i) (r := r) (by rw [hq]; exact hr)
      obtain ⟨a3, c3, Rs, g5, g6, g7⟩ := HA.out.pk.rules
      obtain ⟨y, hy⟩ : ∃ y, Rs[i]? = some y := ⟨_, List.getElem?_eq_getElem (by rw [g7.1]; exact (List.getElem?_eq_some_iff.1 hr).1)⟩
      have hry := (g7.2 i y r hy hr).sub (Sub.trans (Sub.ext (core_fr hF' isP_no)) (core_sub O V'))
      have hrx := (g7.2 i y r hy hr).sub (Sub.trans (Sub.ext (core_fr hF isP_no)) (core_sub O V3))
      obtain ⟨b8, C8, u1, u2, u3, u4⟩ := (g6.sub (Sub.trans (Sub.ext (core_fr hF isP_no)) (core_sub O V3))).2 i y hy
      have e1 : some (Value.slice a3 p.rules.length c3) = some (Value.slice (some ⟨bR, 0, none⟩) p.rules.length rc) := g5.symm.trans r1
      have e2 := (Value.slice.inj (Option.some.inj e1)).1
      rw [u1] at e2
      have e3 : b8 = bR := congrArg Addr.block (Option.some.inj e2)
      subst e3
      obtain rfl : C8 = CR := Option.some.inj (u2.symm.trans r2)
      have e4 : y.enc = xr.enc := u4.symm.trans r7
      have e5 : y = xr := GRule_inj e4
      rw [← e5]; exact hry
    have rm0 : i * 3 < CR.length := by omega
    clear HI3 hF hA hpl hIB hrd hsu hst hr hh1 hh3 hdr hdr2 r1 r6 r7 hh hbl hrno c2
    go_upto_region 13 with fail
    clear r2
    refine wp_loop_f 162 (s4I B O W bp Ce p ps i h r (ps3, ra) bl) (fun f _ => bl - (intOf (f 7)).toNat) rfl ⟨rfl, rfl, rfl, 0, ra, by omega, rfl, rfl, HI4⟩ ?_
    clear HI4 hbp
    intro F4 V4 hrel
    obtain ⟨f0, f5, f6, k, rb, hk, f4, f7, HI4⟩ := hrel
    have H7 := hid_of f7
    rw [frame162s, f0, f4, f5, f6, f7]
    clear f0 f4 f5 f6 f7
    obtain ⟨ps4, hF, hA, hpl, hIB, hfo, hne, hsu, hst⟩ := HI4.out
    have hbp := hA.cell
    have r2 := HRN.out V4 hF
    obtain ⟨yh, hyh⟩ : ∃ yh, ps4[h]? = some yh := ⟨_, List.getElem?_eq_getElem (by rw [hpl, ← HN.out]; exact hhn)⟩
    obtain ⟨g, C, c, g1, g2, g3, g4, _⟩ := hA.predAt (q := h) (x := yh) hyh
    have g8 : nth Ce 1 = some (.slice (some ⟨g, 0, none⟩) n c) := by rw [HN.out, ← hpl]; exact g1
    have hyb := hIB yh (List.mem_of_getElem? hyh)
    have hyo := (stO_at hyh)
    obtain ⟨ys, hys⟩ : ∃ ys, ys = yh.stratum := ⟨_, rfl⟩
    rw [← hys] at g4 hyb
    have HYS : Hid (stO ps4 h = ys) := by rw [hyo.1, hys]; exact hid_of rfl
    have h0 : (0 : Int) ≤ (h : Int) := by omega
    have h1' : (h : Int) < (n : Int) := by omega
    have h2' : ((h : Int)).toNat = h := by omega
    by_cases hkb : k < bl
    rotate_left 1
    · have hkb' : ¬ (k : Int) < (bl : Int) := by omega
      rw [List.take_of_length_le (by rw [← HBL.out]; omega)] at hfo
      have hfo' : stR (ps3, ra) r = (ps4, rb) := by unfold stR; rw [← HH.out]; exact hfo
      have hrd := HRD.out
      rw [hfo'] at hrd
      dsimp only at hrd
      rw [HYS.out] at hrd
      by_cases hge : (n : Int) ≤ ys
      · rw [if_pos (by rw [← HN.out]; exact hge)] at hrd
        have HP : Hid (∀ j, Q (.returned (.bool false)) (V4.drewN j)) := fun j => by
          rw [HQ.out]
          exact ⟨none, HCT.out _ (.bad hrd), hF.drewN j, .inl ⟨rfl, rfl⟩⟩
        clear HI4 hF hA hpl hIB hfo hne hsu hst hyh hyo hys hfo' hrd g1 c1
        go_upto_region 21 with fail
        go_quiet (fail)
        go_wp2_with fail
        try go_ret
        exact HP.out _
      · rw [if_neg (by rw [← HN.out]; exact hge)] at hrd
        have hIB9 : IB 63 ps4 := fun y hy => by
          obtain ⟨j, hj⟩ := List.mem_iff_getElem?.1 hy
          by_cases e : j = h
          · rw [e, hyh] at hj
            rw [← Option.some.inj hj, ← hys]; omega
          · have := hne j e
            rw [hj] at this
            exact HIB3.out y (List.mem_of_getElem? this.symm)
        have HI3 : Hid (∀ j, s3P B O W bp Ce p ps (i + 1) rb (V4.drewN j)) := fun j => ⟨ps4, hF.drewN j, hA.drewN j, hpl, hIB9, hrd, hsu, hst⟩
        have hge' : ¬ (n : Int) ≤ ys := hge
        clear HI4 hF hA hpl hIB hfo hne hsu hst hyh hyo hys hfo' hrd g1 hIB9 c1
        go_upto_region 21 with fail
        go_quiet (fail)
        go_wp2_with fail
        refine ⟨rfl, rfl, ⟨rfl, i + 1, rb, by omega, rfl, ?_, HI3.out _⟩, ?_⟩
        · show Value.int .i64 _ = _
          go_num
        · show nr - (intOf (Value.int .i64 _)).toNat < nr - (intOf (F3 5)).toNat
          rw [H5.out]
          simp [intOf]; omega
    have hkb' : (k : Int) < (bl : Int) := by omega
    have k0 : (0 : Int) ≤ (k : Int) := by omega
    have k2 : ((k : Int)).toNat = k := by omega
    obtain ⟨l, hl⟩ : ∃ l, r.body[k]? = some l := ⟨_, List.getElem?_eq_getElem (by rw [← HBL.out]; exact hkb)⟩
    have hlp := HH3.out l (List.mem_of_getElem? hl)
    obtain ⟨bL, CL, xa, t1, t2, t3, t4, t5, t6, t7⟩ := lit_at (HLV.out V4 _ _ hF hA rfl) hl
    rw [t1] at r5
    obtain ⟨q, hq⟩ : ∃ q, q = l.atom.pred := ⟨_, rfl⟩
    rw [← hq] at t5 hlp
    rw [← HN.out] at hlp
    obtain ⟨yq, hyq⟩ : ∃ yq, ps4[q]? = some yq := ⟨_, List.getElem?_eq_getElem (by rw [hpl, ← HN.out]; exact hlp)⟩
    obtain ⟨g', C', c', j1, j2, j3, j4, _⟩ := hA.predAt (q := q) (x := yq) hyq
    have e1 : some (Value.slice (some ⟨g', 0, none⟩) (⟨p.pool, ps4, p.rules, p.strata⟩ : PP).preds.length c') = some (Value.slice (some ⟨g, 0, none⟩) (⟨p.pool, ps4, p.rules, p.strata⟩ : PP).preds.length c) := j1.symm.trans g1
    have e2 : g' = g := congrArg Addr.block (Option.some.inj (Value.slice.inj (Option.some.inj e1)).1)
    subst e2
    obtain rfl : C' = C := Option.some.inj (j2.symm.trans g2)
    have hqb := hIB yq (List.mem_of_getElem? hyq)
    have hqo := (stO_at hyq).1
    obtain ⟨zs, hzs⟩ : ∃ zs, zs = yq.stratum := ⟨_, rfl⟩
    rw [← hzs] at j4 hqb hqo
    obtain ⟨ng, hng⟩ : ∃ ng, ng = l.neg := ⟨_, rfl⟩
    rw [← hng] at t4
    obtain ⟨le, hle⟩ : ∃ le, le = zs + if ng then 1 else 0 := ⟨_, rfl⟩
    have hlea : lea ps4 l = le := by unfold lea; rw [← hq, hqo, ← hng, hle]
    have hstep : (r.body.take (k + 1)).foldl (stL h) (ps3, ra) = stL h (ps4, rb) l := by rw [stR_take hl, hfo]
    have hstL : stL h (ps4, rb) l = if ys < le then (stP ps4 h le, true) else (ps4, rb) := by
      unfold stL
      dsimp only
      rw [HYS.out, hlea]
    have hsl := stL_sum (X := (ps4, rb)) hIB (by omega) (q := h) (by show h < ps4.length; rw [hpl, ← HN.out]; exact hhn) l
    have hIBl := stL_IB (X := (ps4, rb)) hIB (by omega) h l
    have hnel : ∀ j, j ≠ h → (stL h (ps4, rb) l).1[j]? = ps3[j]? := fun j hj => (stL_ne h (ps4, rb) l hj).trans (hne j hj)
    have hleb : le ≤ 100 := by rw [hle]; split <;> omega
    have hle0 : 0 ≤ le := by rw [hle]; split <;> omega
    obtain ⟨gs, Cs, cs, v1, v2, v3, v4, v5, v6, v7⟩ := hA.set (q := h) (x := yh) hyh le
    have e3 : some (Value.slice (some ⟨gs, 0, none⟩) (⟨p.pool, ps4, p.rules, p.strata⟩ : PP).preds.length cs) = some (Value.slice (some ⟨g', 0, none⟩) (⟨p.pool, ps4, p.rules, p.strata⟩ : PP).preds.length c) := v1.symm.trans g1
    have e4 : gs = g' := congrArg Addr.block (Option.some.inj (Value.slice.inj (Option.some.inj e3)).1)
    subst e4
    obtain rfl : Cs = C' := Option.some.inj (v2.symm.trans g2)
    have hsetP : ps4.set h ⟨yh.arity, yh.base, le⟩ = stP ps4 h le := by unfold stP; rw [hyo.2]
    have HTRUE : Hid (ys < le → ∀ j, s4P B O W bp Ce p ps h r (ps3, ra) (k + 1) true (put (V4.drewN j) gs (splice Cs (h * 3 + 2) [.int .i64 le]))) := by
      intro hlt j
      rw [if_pos hlt] at hstL
      rw [hstL] at hstep hsl hIBl hnel
      refine ⟨stP ps4 h le, (hF.trans v6).drewN j, ?_, by rw [stP_len]; exact hpl, hIBl.mono (by omega), hstep, hnel, Nat.le_trans hsu hsl.1, fun _ => ?_⟩
      · rw [← hsetP]; exact v7.drewN j
      · rcases hsl.2 rfl with e | e
        · exact Nat.lt_of_lt_of_le (hst e) hsl.1
        · exact Nat.lt_of_le_of_lt hsu e
    have HFALSE : Hid (¬ ys < le → ∀ j, s4P B O W bp Ce p ps h r (ps3, ra) (k + 1) rb (V4.drewN j)) := by
      intro hlt j
      rw [if_neg hlt] at hstL
      rw [hstL] at hstep hIBl hnel
      exact ⟨ps4, hF.drewN j, hA.drewN j, hpl, hIBl.mono (by omega), hstep, hnel, hsu, hst⟩
    have q0 : (0 : Int) ≤ (q : Int) := by omega
    have q1 : (q : Int) < (n : Int) := by omega
    have q2 : ((q : Int)).toNat = q := by omega
    have tm : k * 3 + 1 < CL.length := by omega
    have tm0 : k * 3 < CL.length := by omega
    have hzb : zs ≤ 100 := by omega
    have hz0 : 0 ≤ zs := hqb.1
    have sm3 : h * 3 + 2 + 1 ≤ Cs.length := by omega
    have HLE := hid_of hle
    clear HI4 hF hA hpl hIB hfo hne hsu hst hyh hyo hys hl hyq j1 j2 j3 e1 e3 hqo hzs hlea hstep hstL hsl hIBl hnel v1 v2 v4 v5 v6 v7 hsetP hng hq t1 t3 t6 t7 g1 hle c1 hqb hyb hle0
    have hsplit : ng = false ∨ ng = true := by cases ng <;> simp
    rcases hsplit with rfl | rfl
    · have hle1 : le = zs := by rw [HLE.out]; simp
      clear HLE
      subst hle1
      by_cases hlt : ys < le
      · have HI' := hid_of (HTRUE.out hlt)
        clear HTRUE HFALSE
        go_upto_region 15 with fail
        go_quiet (fail)
        go_wp2_with fail
        refine ⟨rfl, rfl, ⟨rfl, rfl, rfl, k + 1, true, by omega, rfl, ?_, HI'.out _⟩, ?_⟩
        · show Value.int .i64 _ = _
          go_num
        · show bl - (intOf (Value.int .i64 _)).toNat < bl - (intOf (F4 7)).toNat
          rw [H7.out]
          simp [intOf]; omega
      · have HI' := hid_of (HFALSE.out hlt)
        clear HTRUE HFALSE
        go_upto_region 15 with fail
        go_quiet (fail)
        go_wp2_with fail
        refine ⟨rfl, rfl, ⟨rfl, rfl, rfl, k + 1, rb, by omega, rfl, ?_, HI'.out _⟩, ?_⟩
        · show Value.int .i64 _ = _
          go_num
        · show bl - (intOf (Value.int .i64 _)).toNat < bl - (intOf (F4 7)).toNat
          rw [H7.out]
          simp [intOf]; omega
    · have hle1 : le = zs + 1 := by rw [HLE.out]; simp
      clear HLE
      subst hle1
      by_cases hlt : ys < zs + 1
      · have HI' := hid_of (HTRUE.out hlt)
        clear HTRUE HFALSE
        go_upto_region 15 with fail
        go_quiet (fail)
        go_wp2_with fail
        refine ⟨rfl, rfl, ⟨rfl, rfl, rfl, k + 1, true, by omega, rfl, ?_, HI'.out _⟩, ?_⟩
        · show Value.int .i64 _ = _
          go_num
        · show bl - (intOf (Value.int .i64 _)).toNat < bl - (intOf (F4 7)).toNat
          rw [H7.out]
          simp [intOf]; omega
      · have HI' := hid_of (HFALSE.out hlt)
        clear HTRUE HFALSE
        go_upto_region 15 with fail
        go_quiet (fail)
        go_wp2_with fail
        refine ⟨rfl, rfl, ⟨rfl, rfl, rfl, k + 1, rb, by omega, rfl, ?_, HI'.out _⟩, ?_⟩
        · show Value.int .i64 _ = _
          go_num
        · show bl - (intOf (Value.int .i64 _)).toNat < bl - (intOf (F4 7)).toNat
          rw [H7.out]
          simp [intOf]; omega
end Go.Proofs.Qxb6500787aGreat
