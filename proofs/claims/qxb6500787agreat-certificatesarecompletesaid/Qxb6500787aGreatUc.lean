
import Derived.Test.Qxb6500787aGreatUb
import Derived.StillTailTactics
import Derived.Deep.QuietTactic
import Derived.BigQuiet
import Derived.Deep.RegionHeld
import Derived.Deep.CutRange
import Derived.Laws.ResultCell
import Derived.Laws.Rows
import Derived.DeepKeys
import Derived.DataBytes
import Derived.Laws.StructEq
import Derived.Laws.AppendOwn
import Derived.Laws.MakeOwn
import Derived.Lib.AppendStr
set_option linter.unusedSimpArgs false
set_option linter.unusedVariables false
namespace Go.Proofs.Qxb6500787aGreat
open Go.RowKit Go.Blk
attribute [local go_sem ↓] execOp_load execOp_store execOp_alloc
attribute [local go_sem] Tryz.ld26 Tryz.st26 Tryz.ld27 Tryz.st27 Tryz.ld28 Tryz.st28 Tryz.ld3 Tryz.st3 Tryz.ld29 Tryz.st29 Tryz.ld44 Tryz.st44 Tryz.ld4 Tryz.st4 Tryz.ld50 Tryz.st50 Tryz.ld32 Tryz.st32 Tryz.ld49 Tryz.st49 Tryz.ld68 Tryz.st68 Tryz.ld9 Tryz.st9 Tryz.ld40 Tryz.st40 Tryz.ld138 Tryz.st138 Tryz.ld139 Tryz.st139 Tryz.ld146 Tryz.st146 Tryz.ld183 Tryz.st183 Tryz.ld184 Tryz.st184 Tryz.ld192 Tryz.st192 Tryz.ld195 Tryz.st195 Tryz.ld217 Tryz.st217 Tryz.ld159 Tryz.st159 Tryz.ld142 Tryz.st142 Tryz.ld2 Tryz.st2 Tryz.ld5 Tryz.st5 Tryz.ld12 Tryz.st12 Tryz.ld21 Tryz.st21 Tryz.ld22 Tryz.st22 Tryz.ld24 Tryz.st24 Tryz.ld58 Tryz.st58 Tryz.ld97 Tryz.st97 Tryz.ld101 Tryz.st101 Tryz.ld116 Tryz.st116 Tryz.ld121 Tryz.st121 Tryz.ld135 Tryz.st135 Tryz.ld136 Tryz.st136 Tryz.ld143 Tryz.st143 Tryz.ld148 Tryz.st148 Tryz.ld154 Tryz.st154 Tryz.ld173 Tryz.st173 Tryz.ld187 Tryz.st187 Tryz.ld222 Tryz.st222 Tryz.ld241 Tryz.st241 Tryz.ld248 Tryz.st248 Tryz.ld268 Tryz.st268 Tryz.ld272 Tryz.st272 Tryz.ld153 Tryz.st153 Tryz.ld255 Tryz.st255 Tryz.ld256 Tryz.st256 Tryz.ld129 Tryz.st129 Tryz.ld152 Tryz.st152 Tryz.ld31 Tryz.st31 Tryz.ld46 Tryz.st46 Tryz.ld52 Tryz.st52 Tryz.ld54 Tryz.st54 Tryz.ld60 Tryz.st60 Tryz.ld70 Tryz.st70 Tryz.ld74 Tryz.st74 Tryz.ld93 Tryz.st93 Tryz.ld141 Tryz.st141 Tryz.ld151 Tryz.st151 Tryz.ld170 Tryz.st170 Tryz.ld186 Tryz.st186 Tryz.ld189 Tryz.st189 Tryz.ld194 Tryz.st194 Tryz.ld197 Tryz.st197 Tryz.ld219 Tryz.st219 Tryz.ld224 Tryz.st224 Tryz.ld230 Tryz.st230 Tryz.ld235 Tryz.st235 Tryz.ld243 Tryz.st243 Tryz.ld247 Tryz.st247 Tryz.ld252 Tryz.st252 Tryz.ld258 Tryz.st258 Tryz.al153 Tryz.al255 Tryz.al256 Tryz.al129 Tryz.al152 Tryz.al31 Tryz.al46 Tryz.al52 Tryz.al54 Tryz.al60 Tryz.al70 Tryz.al74 Tryz.al93 Tryz.al141 Tryz.al151 Tryz.al170 Tryz.al186 Tryz.al189 Tryz.al194 Tryz.al197 Tryz.al219 Tryz.al224 Tryz.al230 Tryz.al235 Tryz.al243 Tryz.al247 Tryz.al252 Tryz.al258
attribute [local go_sem] Request.length_enc Request.ok_enc Request.all_get Request.all_set Request.kind_get Request.kind_set Request.blob_get Request.blob_set Request.items_get Request.items_set Request.pred_get Request.pred_set Request.slots_get Request.slots_set Trace.length_enc Trace.ok_enc Trace.all_get Trace.all_set Trace.op_get Trace.op_set Trace.calls_get Trace.calls_set Item.length_enc Item.ok_enc Item.all_get Item.all_set Item.del_get Item.del_set Item.pred_get Item.pred_set Item.args_get Item.args_set Reply.length_enc Reply.ok_enc Reply.all_get Reply.all_set Reply.code_get Reply.code_set Reply.kind_get Reply.kind_set Reply.index_get Reply.index_set Reply.yes_get Reply.yes_set Reply.preds_get Reply.preds_set Reply.rules_get Reply.rules_set Reply.arity_get Reply.arity_set Reply.rows_get Reply.rows_set Reply.fact_get Reply.fact_set Reply.fact_del_get Reply.fact_del_set Reply.fact_pred_get Reply.fact_pred_set Reply.fact_args_get Reply.fact_args_set GEntry.length_enc GEntry.ok_enc GEntry.all_get GEntry.all_set GEntry.seq_get GEntry.seq_set GEntry.kind_get GEntry.kind_set GEntry.code_get GEntry.code_set GOp.length_enc GOp.ok_enc GOp.all_get GOp.all_set GOp.kind_get GOp.kind_set GOp.raw_get GOp.raw_set Reader.length_enc Reader.ok_enc Reader.all_get Reader.all_set Reader.buf_get Reader.buf_set Reader.at__get Reader.at__set Slot.length_enc Slot.ok_enc Slot.all_get Slot.all_set Slot.bound_get Slot.bound_set Slot.name_get Slot.name_set Session.length_enc Session.ok_enc Session.all_get Session.all_set Session.svc_get Session.svc_set Session.buf_get Session.buf_set Session.closed_get Session.closed_set GProgram.length_enc GProgram.ok_enc GProgram.all_get GProgram.all_set GProgram.pool_get GProgram.pool_set GProgram.preds_get GProgram.preds_set GProgram.rules_get GProgram.rules_set GProgram.strata_get GProgram.strata_set PredInfo.length_enc PredInfo.ok_enc PredInfo.all_get PredInfo.all_set PredInfo.arity_get PredInfo.arity_set PredInfo.base_get PredInfo.base_set PredInfo.stratum_get PredInfo.stratum_set Change.length_enc Change.ok_enc Change.all_get Change.all_set Change.del_get Change.del_set Change.pred_get Change.pred_set Change.t_get Change.t_set Store.length_enc Store.ok_enc Store.all_get Store.all_set Store.names_get Store.names_set Store.arity_get Store.arity_set Store.rows_get Store.rows_set Src.length_enc Src.ok_enc Src.all_get Src.all_set Src.b_get Src.b_set Src.at__get Src.at__set Atom.length_enc Atom.ok_enc Atom.all_get Atom.all_set Atom.pred_get Atom.pred_set Atom.args_get Atom.args_set GRule.length_enc GRule.ok_enc GRule.all_get GRule.all_set GRule.head_get GRule.head_set GRule.body_get GRule.body_set GRule.head_pred_get GRule.head_pred_set GRule.head_args_get GRule.head_args_set Cert.length_enc Cert.ok_enc Cert.all_get Cert.all_set Cert.names_get Cert.names_set Cert.nodes_get Cert.nodes_set Fact.length_enc Fact.ok_enc Fact.all_get Fact.all_set Fact.pred_get Fact.pred_set Fact.t_get Fact.t_set Literal.length_enc Literal.ok_enc Literal.all_get Literal.all_set Literal.neg_get Literal.neg_set Literal.atom_get Literal.atom_set Literal.atom_pred_get Literal.atom_pred_set Literal.atom_args_get Literal.atom_args_set Engine.length_enc Engine.ok_enc Engine.all_get Engine.all_set Engine.prog_get Engine.prog_set Engine.st_get Engine.st_set SrcCertm.length_enc SrcCertm.ok_enc SrcCertm.all_get SrcCertm.all_set SrcCertm.b_get SrcCertm.b_set SrcCertm.at__get SrcCertm.at__set GNode.length_enc GNode.ok_enc GNode.all_get GNode.all_set GNode.rule_get GNode.rule_set GNode.pred_get GNode.pred_set GNode.vals_get GNode.vals_set GNode.refs_get GNode.refs_set Term.length_enc Term.ok_enc Term.all_get Term.all_set Term.var_get Term.var_set Term.n_get Term.n_set Env.length_enc Env.ok_enc Env.all_get Env.all_set Env.val_get Env.val_set Env.set_get Env.set_set
attribute [local go_sem] size_put size_ext blk_put free_put blk_alloc free_alloc blk_drew free_drew blk_ext free_ext lookOr_some putOr_some segAt_some cellAt_some storeIn_some put_put put_alloc_new length_arr ok_arr_u8 ok_arr_u32 ok_arr_u64 ok_arr_i64 ok_arr_sl cellsV_agg cellsV_int cellsV_bool cellsV_string cellsV_pointer cellsV_slice cellsV_sl ok_int ok_bool ok_string ok_pointer ok_slice ok_sl toList_arr seg_arr set_arr nth_splice nth_splice0 seg_splice seg_splice0 splice_splice splice_splice0 length_splice_if
attribute [local go_sem ↓] execOp_box
attribute [local go_sem] box_run nth_arr_u8 put_arr_u8 blk_drewN free_drewN put_drewN blk_raw free_raw
/-- The literals of a rule. -/
def goLt : Nat → List PL → List UInt8 → Int × List PL × List UInt8
  | 0, acc, ys => (0, acc, ys)
  | m + 1, acc, ys => if (bitD ys).1 ≠ 0 then ((bitD ys).1, [], []) else if (atomD (bitD ys).2.2).1 ≠ 0 then ((atomD (bitD ys).2.2).1, [], []) else goLt m (acc ++ [⟨(bitD ys).2.1, (atomD (bitD ys).2.2).2.1⟩]) (atomD (bitD ys).2.2).2.2
theorem goLt_bad {m : Nat} {acc : List PL} {ys : List UInt8} (h : (bitD ys).1 ≠ 0) : goLt (m + 1) acc ys = ((bitD ys).1, [], []) := by show (if _ then _ else _) = _; rw [if_pos h]
theorem goLt_bad2 {m : Nat} {acc : List PL} {ys : List UInt8} (h : (bitD ys).1 = 0) (h2 : (atomD (bitD ys).2.2).1 ≠ 0) : goLt (m + 1) acc ys = ((atomD (bitD ys).2.2).1, [], []) := by
  show (if _ then _ else _) = _
  rw [if_neg (fun e => e h), if_pos h2]
theorem goLt_ok {m : Nat} {acc : List PL} {ys : List UInt8} (h : (bitD ys).1 = 0) (h2 : (atomD (bitD ys).2.2).1 = 0) : goLt (m + 1) acc ys = goLt m (acc ++ [⟨(bitD ys).2.1, (atomD (bitD ys).2.2).2.1⟩]) (atomD (bitD ys).2.2).2.2 := by
  show (if _ then _ else _) = _
  rw [if_neg (fun e => e h), if_neg (fun e => e h2)]
def ruleD (ys : List UInt8) : Int × PR × List UInt8 := if (atomD ys).1 ≠ 0 then ((atomD ys).1, ⟨⟨0, []⟩, []⟩, []) else match (atomD ys).2.2 with
  | [] => (19, ⟨⟨0, []⟩, []⟩, [])
  | k :: r => ((goLt k.toNat [] r).1, ⟨(atomD ys).2.1, (goLt k.toNat [] r).2.1⟩, (goLt k.toNat [] r).2.2)
theorem ruleD_bad {ys : List UInt8} (h : (atomD ys).1 ≠ 0) : ruleD ys = ((atomD ys).1, ⟨⟨0, []⟩, []⟩, []) := by unfold ruleD; rw [if_pos h]
theorem ruleD_end {ys : List UInt8} (h : (atomD ys).1 = 0) (h2 : (atomD ys).2.2 = []) : ruleD ys = (19, ⟨⟨0, []⟩, []⟩, []) := by unfold ruleD; rw [if_neg (fun e => e h), h2]
theorem ruleD_ok {ys : List UInt8} (h : (atomD ys).1 = 0) {k : UInt8} {r : List UInt8} (h2 : (atomD ys).2.2 = k :: r) : ruleD ys = ((goLt k.toNat [] r).1, ⟨(atomD ys).2.1, (goLt k.toNat [] r).2.1⟩, (goLt k.toNat [] r).2.2) := by unfold ruleD; rw [if_neg (fun e => e h), h2]
def RlPost (w0 : World) (br : Nat) (a : Option Addr) (n c : Nat) (xs : List UInt8) (W : World) (q : Int × PR × List UInt8) (e : Ending) (W' : World) : Prop := ∃ x : GRule, e = .returned (.tuple #[.agg x.enc.toArray, .int .i64 q.1]) ∧ (q.1 = 0 → RuleC (newc W.heap.size W') x q.2.1) ∧ RPost w0 br a n c xs W q.1 q.2.2 W'
theorem build230_lit (w : World) (b : Bool) (p : Int) (a : Option Addr) (n c : Nat) : (buildOp 152 #[(0, .bool b), (1, .agg #[.int .i64 p, .slice a n c])]).run Tryz.prog w = .ok (.value (.agg (Literal.enc ⟨b, ⟨p, ⟨a, n, c⟩⟩⟩).toArray)) w := by kernel_rfl
theorem build230 (w : World) (b : Bool) (x : Atom) : (buildOp 152 #[(0, .bool b), (1, .agg (Atom.enc x).toArray)]).run Tryz.prog w = .ok (.value (.agg (Literal.enc ⟨b, x⟩).toArray)) w := build230_lit w b x.pred x.args.a x.args.len x.args.cap
theorem bslice195_lit (w : World) (b : Bool) (p : Int) (a : Option Addr) (n c : Nat) : (bsliceOp 145 1 #[(0, .agg #[.bool b, .int .i64 p, .slice a n c])]).run Tryz.prog w = .ok (.value (.slice (some ⟨w.heap.size, 0, none⟩) 1 1)) (w.alloc (.cells #[.bool b, .int .i64 p, .slice a n c] 152)) := by kernel_rfl
theorem bslice195 (w : World) (x : Literal) : (bsliceOp 145 1 #[(0, .agg (Literal.enc x).toArray)]).run Tryz.prog w = .ok (.value (.slice (some ⟨w.heap.size, 0, none⟩) 1 1)) (w.alloc (.cells (Literal.enc x).toArray 152)) := bslice195_lit w x.neg x.atom.pred x.atom.args.a x.atom.args.len x.atom.args.cap
theorem el195 : ElT Literal.enc 3 40 145 152 := by
  have info : ∃ i z, Tryz.prog.info? 152 = some i ∧ i.zero = some z ∧ i.size = 3 ∧ i.bytes = 40 ∧ z.cells.size = 3 := by
    have hq : (Tryz.prog.info? 152).map (fun i => (i.zero, i.size, i.bytes)) = some (some (.agg (Literal.zero.enc).toArray), 3, 40) := by kernel_rfl
    cases hx : Tryz.prog.info? 152 with
    | none => rw [hx] at hq; simp at hq
    | some i =>
      rw [hx] at hq
      simp only [Option.map_some, Option.some.injEq, Prod.mk.injEq] at hq
      exact ⟨i, _, rfl, hq.1, hq.2.1, hq.2.2, by rfl⟩
  exact ⟨Tryz.underlying145, info, Literal.length_enc, Literal.one_enc, by omega, by omega⟩
def LitsC (W : World) (Ls : List Literal) (L : List PL) : Prop := Ls.length = L.length ∧ ∀ (i : Nat) (l : Literal) (p : PL), Ls[i]? = some l → L[i]? = some p → LitC W l p
theorem LitsC.sub {W W' : World} {Ls : List Literal} {L : List PL} (h : LitsC W Ls L) (hs : Sub W W') : LitsC W' Ls L := ⟨h.1, fun i l p h1 h2 => ⟨(h.2 i l p h1 h2).1, (h.2 i l p h1 h2).2.sub hs⟩⟩
theorem LitsC.snoc {W : World} {Ls : List Literal} {L : List PL} (h : LitsC W Ls L) {l : Literal} {p : PL} (hl : LitC W l p) : LitsC W (Ls ++ [l]) (L ++ [p]) := by
  refine ⟨by simp [h.1], fun i l' p' h1 h2 => ?_⟩
  by_cases hi : i < Ls.length
  · rw [List.getElem?_append_left hi] at h1
    rw [List.getElem?_append_left (by rw [← h.1]; exact hi)] at h2
    exact h.2 i l' p' h1 h2
  · have hl9 := (List.getElem?_eq_some_iff.1 h1).1
    rw [List.length_append, List.length_singleton] at hl9
    have e : i = Ls.length := by omega
    rw [List.getElem?_append_right (by omega), e, Nat.sub_self] at h1
    rw [List.getElem?_append_right (by have := h.1; omega), e, h.1, Nat.sub_self] at h2
    have e1 : l = l' := by simpa using h1
    have e2 : p = p' := by simpa using h2
    rw [← e1, ← e2]; exact hl
def rlI (w0 W : World) (br b2 b4 : Nat) (a : Option Addr) (n c : Nat) (xs : List UInt8) (hd : Atom) (h : PA) (K : Nat) (tot : Int × List PL × List UInt8) (f : Nat → Value) (V : World) : Prop := f 0 = .pointer (some ⟨br, 0, none⟩) ∧ f 2 = .pointer (some ⟨b2, 0, none⟩) ∧ f 4 = .pointer (some ⟨b4, 0, none⟩) ∧ f 7 = .int .i64 (K : Nat) ∧ ∃ i : Nat, i ≤ K ∧ f 9 = .int .i64 (i : Nat) ∧ Hid (∃ O a' n' c' Ls L p, Bld br W O V ∧ Sc W O V b2 GRule.zero.enc ∧ Sc W O V b4 (GRule.enc ⟨hd, ⟨a', n', c'⟩⟩) ∧ RowL W.heap.size O (.a 6 1) V 152 3 (.slice a' n' c') Ls.length (Ls.flatMap Literal.enc) ∧ LitsC (core O V) Ls L ∧ AtomC (core O V) hd h ∧ L.length = i ∧ Rdr w0 br a n c p V ∧ goLt (K - i) L (xs.drop p) = tot)
attribute [local go_sem ↓] execOp_build execOp_bslice
attribute [local go_sem] build230 bslice195
set_option maxRecDepth 100000 in
theorem frame64r (f : Nat → Value) : frameN 64 f = #[f 0, f 1, f 2, f 3, f 4, f 5, f 6, f 7, f 8, f 9, f 10, f 11, f 12, f 13, f 14, f 15, f 16, f 17, f 18, f 19, f 20, f 21, f 22, f 23, f 24, f 25, f 26, f 27, f 28, f 29, f 30, f 31, f 32, f 33, f 34, f 35, f 36, f 37, f 38, f 39, f 40, f 41, f 42, f 43, f 44, f 45, f 46, f 47, f 48, f 49, f 50, f 51, f 52, f 53, f 54, f 55, f 56, f 57, f 58, f 59, f 60, f 61, f 62, f 63] := by kernel_rfl
set_option maxRecDepth 40000 in
set_option maxHeartbeats 4000000 in
theorem rule_any (w0 W : World) (br : Nat) (a : Option Addr) (n c p : Nat) (hR : Rdr w0 br a n c p W) (hn : n ≤ 65536) (hnc : n ≤ c) (hc : c ≤ 9223372036854775807) (xs : List UInt8) (hX : Bs w0 a n xs) : Calls Tryz.prog 69 #[.pointer (some ⟨br, 0, none⟩)] W (RlPost w0 br a n c xs W (ruleD (xs.drop p))) := by
  obtain ⟨Q, hQ⟩ : ∃ Q, Q = RlPost w0 br a n c xs W (ruleD (xs.drop p)) := ⟨_, rfl⟩
  rw [← hQ]
  have HQ := hid_of hQ
  have HR := hid_of hR
  have HX := hid_of hX
  have hbr := blk_lt hR.1
  clear hR hX hQ
  go_enter Tryz.func69, Tryz.ntmps69
  go_upto_region 2 with fail
  refine wp_world (fun V => ∃ O, Bld br W O V ∧ Sc W O V W.heap.size GRule.zero.enc ∧ Sc W O V (W.heap.size + 1) GRule.zero.enc ∧ Rdr w0 br a n c p V) ?_ ?_
  · have s1 := Sc.new (W := W) (O := OB br) (V := W) (Nat.le_refl _) (GRule.zero.enc).toArray 147
    have B1 := (Bld.refl hbr).step s1.1 (fun e => e)
    have s2 := Sc.new (W := W) (O := lab (OB br) W.heap.size (.a 0 9)) (V := W.alloc (.cells (GRule.zero.enc).toArray 147)) s1.1.size (GRule.zero.enc).toArray 147
    have R1 := (Bld.refl hbr).rdr HR.out.2.2.2.1 HR.out s1.1 (fun e => e) (fun e => e)
    refine ⟨_, B1.step s2.1 (fun e => e), s1.2.fr s2.1 (fun e => e), ?_, B1.rdr HR.out.2.2.2.1 R1 s2.1 (fun e => e) (fun e => e)⟩
    have := s2.2
    rw [World.size_alloc] at this ⊢
    exact this
  intro V1 HV1
  try simp only [World.size_alloc]
  obtain ⟨b2, hb2⟩ : ∃ b2, b2 = W.heap.size := ⟨_, rfl⟩
  obtain ⟨b4, hb4⟩ : ∃ b4, b4 = W.heap.size + 1 := ⟨_, rfl⟩
  rw [← hb4, ← hb2] at HV1 ⊢
  have n24 : b2 ≠ b4 := by omega
  have HN24 := hid_of n24
  obtain ⟨O1, hB1, hs2, hs4, hR1⟩ := HV1
  have HFIN : Hid (∀ (O : Own) (V : World) (x : GRule) (p' : Nat) (C2 : List Value), Bld br W O V → Sc W O V b2 C2 → Rdr w0 br a n c p' V → ((ruleD (xs.drop p)).1 = 0 → RuleC (newc W.heap.size (put V b2 x.enc)) x (ruleD (xs.drop p)).2.1 ∧ xs.drop p' = (ruleD (xs.drop p)).2.2) → ∀ cd, cd = (ruleD (xs.drop p)).1 → Q (.returned (.tuple #[.agg x.enc.toArray, .int .i64 cd])) (put V b2 x.enc)) := by
    intro O V x p' C2 h1 h2 h3 h4 cd h5
    obtain ⟨g1, g2, g3⟩ := h1.ret h3 h2 x.enc
    rw [HQ.out, h5]
    exact ⟨x, rfl, fun e => (h4 e).1, p', g2, g1, fun e => (h4 e).2⟩
  have hcall := atom_any w0 V1 br a n c p hR1 hn hnc hc xs HX.out
  have HB1 := hid_of hB1
  have HS2 := hid_of hs2
  have HS4 := hid_of hs4
  clear hB1 hs2 hs4 hR1 hb2 hb4 n24
  go_wp2_with fail
  refine hcall.mono ?_
  rintro e V2 ⟨hd, rfl, hA2, p1, hR2, hSd2, hd2⟩
  dsimp only
  obtain ⟨cd, hcd⟩ : ∃ cd, cd = (atomD (xs.drop p)).1 := ⟨_, rfl⟩
  rw [← hcd] at hA2 hd2 ⊢
  have hF2 := HB1.out.call hSd2
  have hB2 := HB1.out.step hF2 (fun e => by have := (Lab.a.inj e).2; omega)
  have hs2 := HS2.out.fr hF2 (fun e => by have := (Lab.a.inj e).1; omega)
  have hs4 := HS4.out.fr hF2 (fun e => by have := (Lab.a.inj e).1; omega)
  have hA2' : cd = 0 → AtomC (core (lab O1 V1.heap.size .no) V2) hd (atomD (xs.drop p)).2.1 := fun e => (hA2 e).sub (newc_core _)
  obtain ⟨O2, hO2⟩ : ∃ O2, O2 = lab O1 V1.heap.size .no := ⟨_, rfl⟩
  rw [← hO2] at hB2 hs2 hs4 hA2'
  have HCD := hid_of hcd
  clear hcd
  go_upto_region 3 with fail
  refine wp_world (fun V => ∃ O, Bld br W O V ∧ Sc W O V b2 GRule.zero.enc ∧ Sc W O V b4 GRule.zero.enc ∧ Rdr w0 br a n c p1 V ∧ (cd = 0 → AtomC (core O V) hd (atomD (xs.drop p)).2.1) ∧ blk V V2.heap.size = some hd.enc) ?_ ?_
  · have hx : V2.Extends (V2.alloc (.cells hd.enc.toArray 144)) := extends_alloc (ext_Ext (Ext.refl _)) _
    have hF := Fr.grow (L := fun _ => False) (O := O2) hx
    exact ⟨_, hB2.step hF (fun e => e), hs2.fr hF (fun e => e), hs4.fr hF (fun e => e), hB2.rdr hR2.2.2.2.1 hR2 hF (fun e => e) (fun e => e), fun e => (hA2' e).sub (Sub.ext (core_fr hF (fun e => e))), by rw [blk_alloc, if_pos rfl]⟩
  intro V3 HV3
  obtain ⟨b5, hb5⟩ : ∃ b5, b5 = V2.heap.size := ⟨_, rfl⟩
  rw [← hb5] at HV3 ⊢
  clear hcall hF2 hB2 hs2 hs4 hA2 hA2' hO2 hb5 hR2 hSd2
  obtain ⟨O3, hB3, hs2, hs4, hR3, hA3, hb5⟩ := HV3
  have hb2 := hs2.cell
  have hf2 := hs2.fre
  have hb4 := hs4.cell
  have hf4 := hs4.fre
  have hn24 : ¬ b2 = b4 := HN24.out
  have hcd := HCD.out
  by_cases hc0 : cd = 0
  rotate_left 1
  · have HP : Hid (Q (.returned (.tuple #[.agg (GRule.zero.enc).toArray, .int .i64 cd])) (put V3 b2 GRule.zero.enc)) := by
      have hg := ruleD_bad (ys := xs.drop p) (by rw [← hcd]; exact hc0)
      exact HFIN.out _ V3 GRule.zero p1 _ hB3 hs2 hR3 (fun e => by rw [hg, ← hcd] at e; exact absurd e hc0) cd (by rw [hg, ← hcd])
    have hcb : (cd != 0) = true := by simp [hc0]
    clear hB3 hs2 hs4 hR3 hA3 hd2 hc0 hcd
    go_wp2_with fail
    refine ret_cell_tmp (C := GRule.zero.enc) rfl rfl rfl ?_ (by kernel_rfl) (by rw [GRule.length_enc]; kernel_rfl) rfl HP.out
    first | (rw [blk_put, if_pos rfl, hb2]; rfl) | (simp only [blk_put, if_true, hb2, Option.map_some]; try rfl)
  have hA0 := hA3 hc0
  have hr0 := hd2 hc0
  have hz0 : (atomD (xs.drop p)).1 = 0 := by rw [← hcd]; exact hc0
  subst hc0
  obtain ⟨hA, hhA⟩ : ∃ hA, hA = (atomD (xs.drop p)).2.1 := ⟨_, rfl⟩
  rw [← hhA] at hA0
  have HHA := hid_of hhA
  have HZ0 := hid_of hz0
  have HR0 := hid_of hr0
  have hp4 := hs4.put (GRule.enc ⟨hd, ⟨none, 0, 0⟩⟩)
  have hw4 : ∃ O, Bld br W O (put V3 b4 (GRule.enc ⟨hd, ⟨none, 0, 0⟩⟩)) ∧ Sc W O (put V3 b4 (GRule.enc ⟨hd, ⟨none, 0, 0⟩⟩)) b2 GRule.zero.enc ∧ Sc W O (put V3 b4 (GRule.enc ⟨hd, ⟨none, 0, 0⟩⟩)) b4 (GRule.enc ⟨hd, ⟨none, 0, 0⟩⟩) ∧ Rdr w0 br a n c p1 (put V3 b4 (GRule.enc ⟨hd, ⟨none, 0, 0⟩⟩)) ∧ AtomC (core O (put V3 b4 (GRule.enc ⟨hd, ⟨none, 0, 0⟩⟩))) hd hA := ⟨O3, hB3.step hp4.1 (fun e => by have := (Lab.a.inj e).1; omega), hs2.putO HN24.out, hp4.2, hB3.rdr hR3.2.2.2.1 hR3 hp4.1 (fun e => by have := (Lab.a.inj e).1; omega) (fun e => by have := (Lab.a.inj e).1; omega), hA0.sub (Sub.ext (core_fr hp4.1 (fun e => by cases e)))⟩
  have HW4 := hid_of hw4
  clear hB3 hs2 hs4 hR3 hA3 hd2 hcd HCD hA0 hr0 hz0 hhA hp4 hw4
  go_upto_region 6 with fail
  refine wp_world (fun V => ∃ O, Bld br W O V ∧ Sc W O V b2 GRule.zero.enc ∧ Sc W O V b4 (GRule.enc ⟨hd, ⟨none, 0, 0⟩⟩) ∧ Rdr w0 br a n c p1 V ∧ AtomC (core O V) hd hA) HW4.out ?_
  intro V4 HV4
  clear hb2 hf2 hb4 hf4 HW4 hb5
  obtain ⟨O4, hB4, hs2, hs4, hR4, hA4⟩ := HV4
  have hcall2 := nxt_any w0 V4 br a n c p1 hR4 hn hnc hc xs HX.out
  have HB4 := hid_of hB4
  have HS2 := hid_of hs2
  have HS4 := hid_of hs4
  have HA4 := hid_of hA4
  clear hB4 hs2 hs4 hR4 hA4
  go_wp2_with fail
  refine hcall2.mono ?_
  rintro e V5 ⟨k2, ok2, p2, rfl, hN2, hR5, hSd5⟩
  dsimp only
  have hF5 := HB4.out.call hSd5
  have hB5 := HB4.out.step hF5 (fun e => by have := (Lab.a.inj e).2; omega)
  have hs2 := HS2.out.fr hF5 (fun e => by have := (Lab.a.inj e).1; omega)
  have hs4 := HS4.out.fr hF5 (fun e => by have := (Lab.a.inj e).1; omega)
  have hA5 := HA4.out.sub (Sub.ext (core_fr hF5 (fun e => by cases e)))
  have hk2 := hN2.lt
  have hb2 := hs2.cell
  have hf2 := hs2.fre
  have hb4 := hs4.cell
  have hf4 := hs4.fre
  rcases hN2.cases with ⟨rfl, x, hx, hdx⟩ | ⟨rfl, hdx, hp2⟩
  rotate_left 1
  · have HP : Hid (Q (.returned (.tuple #[.agg (GRule.enc ⟨hd, ⟨none, 0, 0⟩⟩).toArray, .int .i64 19])) (put V5 b2 (GRule.enc ⟨hd, ⟨none, 0, 0⟩⟩))) := by
      have hg := ruleD_end HZ0.out (by rw [← HR0.out]; exact hdx)
      exact HFIN.out _ V5 _ p2 _ hB5 hs2 hR5 (fun e => by rw [hg] at e; cases e) 19 (by rw [hg])
    clear hcall2 hF5 hB5 hs2 hs4 hA5 hR5 hSd5 hN2 hdx hp2
    go_wp2_with fail
    refine ret_cell_tmp (C := GRule.enc ⟨hd, ⟨none, 0, 0⟩⟩) rfl rfl rfl ?_ (by kernel_rfl) (by rw [GRule.length_enc]; kernel_rfl) rfl HP.out
    first | (rw [blk_put, if_pos rfl, hb2]; rfl) | (simp only [blk_put, if_true, hb2, Option.map_some]; try rfl)
  obtain ⟨tot, htot⟩ : ∃ tot, tot = goLt k2 [] (xs.drop p2) := ⟨_, rfl⟩
  have HG : Hid (ruleD (xs.drop p) = (tot.1, ⟨hA, tot.2.1⟩, tot.2.2)) := by
    rw [htot, ruleD_ok HZ0.out (k := x) (r := xs.drop p2) (by rw [← HR0.out]; exact hdx), HHA.out, hx]; exact hid_of rfl
  have HI0 : Hid (∃ O a' n' c' Ls L p', Bld br W O V5 ∧ Sc W O V5 b2 GRule.zero.enc ∧ Sc W O V5 b4 (GRule.enc ⟨hd, ⟨a', n', c'⟩⟩) ∧ RowL W.heap.size O (.a 6 1) V5 152 3 (.slice a' n' c') Ls.length (Ls.flatMap Literal.enc) ∧ LitsC (core O V5) Ls L ∧ AtomC (core O V5) hd hA ∧ L.length = 0 ∧ Rdr w0 br a n c p' V5 ∧ goLt (k2 - 0) L (xs.drop p') = tot) := ⟨_, none, 0, 0, [], [], p2, hB5, hs2, hs4, RowL.nil _ _ _ _ _ _, ⟨rfl, fun i l p h => by simp at h⟩, hA5, rfl, hR5, htot.symm⟩
  clear hcall2 hF5 hB5 hs2 hs4 hA5 hR5 hSd5 hN2 hdx hx HB4 HS2 HS4 HA4 hb2 hf2 hb4 hf4 htot
  go_upto_region 10 with fail
  refine wp_loop_f 64 (rlI w0 W br b2 b4 a n c xs hd hA k2 tot) (fun f _ => k2 - (intOf (f 9)).toNat) rfl ⟨rfl, rfl, rfl, rfl, 0, by omega, rfl, HI0⟩ ?_
  clear HI0
  intro F V hrel
  obtain ⟨f0, f2, f4, f7, i, hi, f9, HI⟩ := hrel
  have H9 := hid_of f9
  rw [frame64r, f0, f2, f4, f7, f9]
  clear f0 f2 f4 f7 f9
  obtain ⟨O5, a', n', c', Ls, L, p5, hB, hs2, hs4, hrow, hLC, hAC, hLi, hRd, hgo⟩ := HI.out
  have hb2 := hs2.cell
  have hf2 := hs2.fre
  have hb4 := hs4.cell
  have hf4 := hs4.fre
  have HB := hid_of hB
  have HS2 := hid_of hs2
  have HS4 := hid_of hs4
  have HRW := hid_of hrow
  have HLC := hid_of hLC
  have HAC := hid_of hAC
  have HRD := hid_of hRd
  have HLI := hid_of hLi
  by_cases hin : i < k2
  rotate_left 1
  · have hin' : ¬ (i : Int) < (k2 : Int) := by omega
    have HP : Hid (Q (.returned (.tuple #[.agg (GRule.enc ⟨hd, ⟨a', n', c'⟩⟩).toArray, .int .i64 0])) (put V b2 (GRule.enc ⟨hd, ⟨a', n', c'⟩⟩))) := by
      have e1 : tot = (0, L, xs.drop p5) := by
        rw [← hgo, show k2 - i = 0 by omega]; rfl
      have hg := HG.out
      rw [e1] at hg
      obtain ⟨g1, g2, g3⟩ := HB.out.ret HRD.out HS2.out (GRule.enc ⟨hd, ⟨a', n', c'⟩⟩)
      have hF := (HS2.out.put (GRule.enc ⟨hd, ⟨a', n', c'⟩⟩)).1
      have hrw2 := (HRW.out.fr hF (fun e => by have := (Lab.a.inj e).1; omega)).nw Literal.length_enc
      refine HFIN.out _ V ⟨hd, ⟨a', n', c'⟩⟩ p5 _ HB.out HS2.out HRD.out (fun _ => ?_) 0 (by rw [hg])
      rw [hg]
      exact ⟨⟨HAC.out.sub g3, Ls, hrw2, HLC.out.1, (HLC.out.sub g3).2⟩, rfl⟩
    clear HI hB hs2 hs4 hrow hLC hAC hRd hgo hLi
    go_wp2_with fail
    refine ret_cell_tmp (C := GRule.enc ⟨hd, ⟨a', n', c'⟩⟩) rfl rfl rfl ?_ (by kernel_rfl) (by rw [GRule.length_enc]; kernel_rfl) rfl HP.out
    first | (rw [blk_put, if_pos rfl, hb2]; rfl) | (simp only [blk_put, if_true, hb2, Option.map_some]; try rfl)
  have hin' : (i : Int) < (k2 : Int) := by omega
  have hcall := bit_any w0 V br a n c p5 hRd hn hnc hc xs HX.out
  obtain ⟨m, hm⟩ : ∃ m, k2 - i = m + 1 := ⟨k2 - i - 1, by omega⟩
  rw [hm] at hgo
  have HGO := hid_of hgo
  have HM := hid_of hm
  clear HI hB hs2 hs4 hrow hLC hAC hRd hgo hLi hm
  have hn24 : ¬ b2 = b4 := HN24.out
  go_wp2_with fail
  refine hcall.mono ?_
  rintro e V6 ⟨rfl, p6, hR6, hSd6, hd6⟩
  dsimp only
  obtain ⟨cd, hcd⟩ : ∃ cd, cd = (bitD (xs.drop p5)).1 := ⟨_, rfl⟩
  obtain ⟨bb, hbb⟩ : ∃ bb, bb = (bitD (xs.drop p5)).2.1 := ⟨_, rfl⟩
  rw [← hcd, ← hbb]
  have hF6 := HB.out.call hSd6
  have hB6 := HB.out.step hF6 (fun e => by have := (Lab.a.inj e).2; omega)
  have hs2 := HS2.out.fr hF6 (fun e => by have := (Lab.a.inj e).1; omega)
  have hs4 := HS4.out.fr hF6 (fun e => by have := (Lab.a.inj e).1; omega)
  have hrow6 := HRW.out.fr hF6 (fun e => by have := (Lab.a.inj e).2; omega)
  have hLC6 := HLC.out.sub (Sub.ext (core_fr hF6 (fun e => by cases e)))
  have hAC6 := HAC.out.sub (Sub.ext (core_fr hF6 (fun e => by cases e)))
  have hb2 := hs2.cell
  have hf2 := hs2.fre
  have hb4 := hs4.cell
  have hf4 := hs4.fre
  by_cases hc0 : cd = 0
  rotate_left 1
  · have HP : Hid (Q (.returned (.tuple #[.agg (GRule.enc ⟨hd, ⟨a', n', c'⟩⟩).toArray, .int .i64 cd])) (put V6 b2 (GRule.enc ⟨hd, ⟨a', n', c'⟩⟩))) := by
      have e1 : tot = (cd, [], []) := by
        rw [← HGO.out, goLt_bad (by rw [← hcd]; exact hc0), hcd]
      have hg := HG.out
      rw [e1] at hg
      exact HFIN.out _ V6 _ p6 _ hB6 hs2 hR6 (fun e => by rw [hg] at e; exact absurd e hc0) cd (by rw [hg])
    have hcb : (cd != 0) = true := by simp [hc0]
    clear hcall hF6 hB6 hs2 hs4 hrow6 hLC6 hAC6 hR6 hSd6 hd6 hc0 hcd hbb
    go_wp2_with fail
    refine ret_cell_tmp (C := GRule.enc ⟨hd, ⟨a', n', c'⟩⟩) rfl rfl rfl ?_ (by kernel_rfl) (by rw [GRule.length_enc]; kernel_rfl) rfl HP.out
    first | (rw [blk_put, if_pos rfl, hb2]; rfl) | (simp only [blk_put, if_true, hb2, Option.map_some]; try rfl)
  rw [hc0]
  have hrest := hd6 (by rw [← hcd]; exact hc0)
  have hcz : (bitD (xs.drop p5)).1 = 0 := by rw [← hcd]; exact hc0
  have HCZ := hid_of hcz
  have HRS := hid_of hrest
  have HBB := hid_of hbb
  have hcall3 := atom_any w0 V6 br a n c p6 hR6 hn hnc hc xs HX.out
  rw [hrest] at hcall3
  have HB6 := hid_of hB6
  have HS2 := hid_of hs2
  have HS4 := hid_of hs4
  have HR6 := hid_of hrow6
  have HLC := hid_of hLC6
  have HAC := hid_of hAC6
  clear hcall hF6 hB6 hs2 hs4 hrow6 hLC6 hAC6 hR6 hSd6 hd6 hc0 hcd hbb hcz hrest hb2 hf2 hb4 hf4 HB HRW
  go_wp2_with fail
  refine hcall3.mono ?_
  rintro e V7 ⟨xa, rfl, hA7, p7, hR7, hSd7, hd7⟩
  dsimp only
  obtain ⟨ce, hce⟩ : ∃ ce, ce = (atomD (bitD (xs.drop p5)).2.2).1 := ⟨_, rfl⟩
  rw [← hce] at hA7 hd7 ⊢
  have hF7 := HB6.out.call hSd7
  have hB7 := HB6.out.step hF7 (fun e => by have := (Lab.a.inj e).2; omega)
  have hs2 := HS2.out.fr hF7 (fun e => by have := (Lab.a.inj e).1; omega)
  have hs4 := HS4.out.fr hF7 (fun e => by have := (Lab.a.inj e).1; omega)
  have hrow7 := HR6.out.fr hF7 (fun e => by have := (Lab.a.inj e).2; omega)
  have hLC7 := HLC.out.sub (Sub.ext (core_fr hF7 (fun e => by cases e)))
  have hAC7 := HAC.out.sub (Sub.ext (core_fr hF7 (fun e => by cases e)))
  have hA7' := fun e => (hA7 e).sub (newc_core (n := V6.heap.size) (V := V7) (lab O5 V.heap.size .no))
  obtain ⟨O7, hO7⟩ : ∃ O7, O7 = lab (lab O5 V.heap.size .no) V6.heap.size .no := ⟨_, rfl⟩
  rw [← hO7] at hB7 hs2 hs4 hrow7 hLC7 hAC7 hA7'
  have HCE := hid_of hce
  clear hce
  go_upto_region 16 with fail
  refine wp_world (fun V => ∃ O, Bld br W O V ∧ Sc W O V b2 GRule.zero.enc ∧ Sc W O V b4 (GRule.enc ⟨hd, ⟨a', n', c'⟩⟩) ∧ RowL W.heap.size O (.a 6 1) V 152 3 (.slice a' n' c') Ls.length (Ls.flatMap Literal.enc) ∧ LitsC (core O V) Ls L ∧ AtomC (core O V) hd hA ∧ Rdr w0 br a n c p7 V ∧ (ce = 0 → AtomC (core O V) xa (atomD (bitD (xs.drop p5)).2.2).2.1) ∧ blk V V7.heap.size = some xa.enc) ?_ ?_
  · have hx : V7.Extends (V7.alloc (.cells xa.enc.toArray 144)) := extends_alloc (ext_Ext (Ext.refl _)) _
    have hF := Fr.grow (L := fun _ => False) (O := O7) hx
    have hsb := Sub.ext (core_fr hF (fun e => e))
    exact ⟨_, hB7.step hF (fun e => e), hs2.fr hF (fun e => e), hs4.fr hF (fun e => e), hrow7.fr hF (fun e => e), hLC7.sub hsb, hAC7.sub hsb, hB7.rdr hR7.2.2.2.1 hR7 hF (fun e => e) (fun e => e), fun e => (hA7' e).sub hsb, by rw [blk_alloc, if_pos rfl]⟩
  intro V8 HV8
  obtain ⟨b12, hb12⟩ : ∃ b12, b12 = V7.heap.size := ⟨_, rfl⟩
  rw [← hb12] at HV8 ⊢
  clear hcall3 hF7 hB7 hs2 hs4 hrow7 hLC7 hAC7 hA7 hA7' hO7 hb12 hR7 hSd7 HB6 HS2 HS4 HR6 HLC HAC
  obtain ⟨O8, hB8, hs2, hs4, hrow8, hLC8, hAC8, hR8, hA8, hb12⟩ := HV8
  have hb2 := hs2.cell
  have hf2 := hs2.fre
  have hb4 := hs4.cell
  have hf4 := hs4.fre
  have hce := HCE.out
  by_cases hc0 : ce = 0
  rotate_left 1
  · have HP : Hid (Q (.returned (.tuple #[.agg (GRule.enc ⟨hd, ⟨a', n', c'⟩⟩).toArray, .int .i64 ce])) (put V8 b2 (GRule.enc ⟨hd, ⟨a', n', c'⟩⟩))) := by
      have e1 : tot = (ce, [], []) := by
        rw [← HGO.out, goLt_bad2 HCZ.out (by rw [← hce]; exact hc0), hce]
      have hg := HG.out
      rw [e1] at hg
      exact HFIN.out _ V8 _ p7 _ hB8 hs2 hR8 (fun e => by rw [hg] at e; exact absurd e hc0) ce (by rw [hg])
    have hcb : (ce != 0) = true := by simp [hc0]
    clear hB8 hs2 hs4 hrow8 hLC8 hAC8 hR8 hA8 hd7 hc0 hce
    go_wp2_with fail
    refine ret_cell_tmp (C := GRule.enc ⟨hd, ⟨a', n', c'⟩⟩) rfl rfl rfl ?_ (by kernel_rfl) (by rw [GRule.length_enc]; kernel_rfl) rfl HP.out
    first | (rw [blk_put, if_pos rfl, hb2]; rfl) | (simp only [blk_put, if_true, hb2, Option.map_some]; try rfl)
  have hcz2 : (atomD (bitD (xs.drop p5)).2.2).1 = 0 := by rw [← hce]; exact hc0
  have hA9 := hA8 hc0
  have hd9 := hd7 hc0
  subst hc0
  obtain ⟨a2, c2, V9, hrun, hrow9, hF9⟩ := appL Literal.enc 3 40 145 152 el195.und el195.info el195.len el195.one el195.pos el195.small 145 (⟨bb, xa⟩ : Literal) hrow8 hB8.fr.size (by have := HLI.out; have := hLC8.1; omega) (Literal.enc ⟨bb, xa⟩).toArray rfl 1
  have hB9 := hB8.step hF9 (fun e => by have := (Lab.a.inj e).2; omega)
  have hs29 := hs2.fr hF9 (fun e => by have := (Lab.a.inj e).1; omega)
  have hs49 := hs4.fr hF9 (fun e => by have := (Lab.a.inj e).1; omega)
  have hR9 := hB8.rdr hR8.2.2.2.1 hR8 hF9 (fun e => by have := (Lab.a.inj e).2; omega) (fun e => by have := (Lab.a.inj e).2; omega)
  have hsb9 := Sub.ext (core_fr hF9 (fun e => by cases e))
  have hp9 := hs49.put (GRule.enc ⟨hd, ⟨a2, n' + 1, c2⟩⟩)
  have hsp9 := Sub.ext (core_fr hp9.1 (fun e => by cases e))
  have HI' : Hid (∃ O a3 n3 c3 Ls L p, Bld br W O (put V9 b4 (GRule.enc ⟨hd, ⟨a2, n' + 1, c2⟩⟩)) ∧ Sc W O (put V9 b4 (GRule.enc ⟨hd, ⟨a2, n' + 1, c2⟩⟩)) b2 GRule.zero.enc ∧ Sc W O (put V9 b4 (GRule.enc ⟨hd, ⟨a2, n' + 1, c2⟩⟩)) b4 (GRule.enc ⟨hd, ⟨a3, n3, c3⟩⟩) ∧ RowL W.heap.size O (.a 6 1) (put V9 b4 (GRule.enc ⟨hd, ⟨a2, n' + 1, c2⟩⟩)) 152 3 (.slice a3 n3 c3) Ls.length (Ls.flatMap Literal.enc) ∧ LitsC (core O (put V9 b4 (GRule.enc ⟨hd, ⟨a2, n' + 1, c2⟩⟩))) Ls L ∧ AtomC (core O (put V9 b4 (GRule.enc ⟨hd, ⟨a2, n' + 1, c2⟩⟩))) hd hA ∧ L.length = i + 1 ∧ Rdr w0 br a n c p (put V9 b4 (GRule.enc ⟨hd, ⟨a2, n' + 1, c2⟩⟩)) ∧ goLt (k2 - (i + 1)) L (xs.drop p) = tot) := by
    refine ⟨_, a2, n' + 1, c2, Ls ++ [⟨bb, xa⟩], L ++ [⟨bb, (atomD (bitD (xs.drop p5)).2.2).2.1⟩], p7, hB9.step hp9.1 (fun e => by have := (Lab.a.inj e).1; omega), hs29.putO HN24.out, hp9.2, hrow9.fr hp9.1 (fun e => by have := (Lab.a.inj e).1; omega), ((hLC8.sub hsb9).snoc ⟨rfl, hA9.sub hsb9⟩).sub hsp9, (hAC8.sub hsb9).sub hsp9, by rw [List.length_append, HLI.out]; rfl, hB9.rdr hR9.2.2.2.1 hR9 hp9.1 (fun e => by have := (Lab.a.inj e).1; omega) (fun e => by have := (Lab.a.inj e).1; omega), ?_⟩
    have e2 : k2 - (i + 1) = m := by have := HM.out; omega
    rw [e2, ← HGO.out, goLt_ok HCZ.out hcz2, ← HBB.out, hd9]
  have hb29 := hs29.cell
  have hf29 := hs29.fre
  have hb49 := hs49.cell
  have hf49 := hs49.fre
  clear hB8 hs2 hs4 hrow8 hLC8 hAC8 hR8 hA8 hd7 hce HCE hcz2 hA9 hd9 hrow9 hF9 hB9 hs29 hs49 hR9 hsb9 hp9 hsp9 hb2 hf2
  go_wp2_with (at_builtin; refine wpList_append_run rfl _ _ 145 rfl _ _ _ _ rfl rfl hrun ?_)
  refine ⟨rfl, rfl, ⟨rfl, rfl, rfl, rfl, i + 1, by omega, ?_, HI'⟩, ?_⟩
  · show Value.int .i64 _ = _
    go_num
  · show k2 - (intOf (Value.int .i64 _)).toNat < k2 - (intOf (F 9)).toNat
    rw [H9.out]
    simp [intOf]; omega
end Go.Proofs.Qxb6500787aGreat
