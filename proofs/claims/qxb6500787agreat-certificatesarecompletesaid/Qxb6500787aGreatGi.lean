import Derived.Test.Qxb6500787aGreatGj
import Derived.Test.Qxb6500787aGreatGg
import Derived.Test.Qxb6500787aGreatEq

import Derived.StillTailTactics
import Derived.Deep.QuietTactic
import Derived.BigQuiet
import Derived.Deep.RegionHeld
import Derived.Deep.CutRange
import Derived.Laws.ResultCell
import Derived.Laws.Rows
import Derived.DeepKeys
import Derived.DataBytes
import Derived.Laws.StructEq
import Derived.Laws.AppendOwn
import Derived.Laws.MakeOwn
import Derived.Lib.AppendStr
set_option linter.unusedSimpArgs false
set_option linter.unusedVariables false
namespace Go.Proofs.Qxb6500787aGreat
open Go.RowKit Go.Blk
attribute [local go_sem ↓] execOp_load execOp_store execOp_alloc
attribute [local go_sem] Tryz.ld26 Tryz.st26 Tryz.ld27 Tryz.st27 Tryz.ld28 Tryz.st28 Tryz.ld3 Tryz.st3 Tryz.ld29 Tryz.st29 Tryz.ld44 Tryz.st44 Tryz.ld4 Tryz.st4 Tryz.ld50 Tryz.st50 Tryz.ld32 Tryz.st32 Tryz.ld49 Tryz.st49 Tryz.ld68 Tryz.st68 Tryz.ld9 Tryz.st9 Tryz.ld40 Tryz.st40 Tryz.ld138 Tryz.st138 Tryz.ld139 Tryz.st139 Tryz.ld146 Tryz.st146 Tryz.ld183 Tryz.st183 Tryz.ld184 Tryz.st184 Tryz.ld192 Tryz.st192 Tryz.ld195 Tryz.st195 Tryz.ld217 Tryz.st217 Tryz.ld159 Tryz.st159 Tryz.ld142 Tryz.st142 Tryz.ld2 Tryz.st2 Tryz.ld5 Tryz.st5 Tryz.ld12 Tryz.st12 Tryz.ld21 Tryz.st21 Tryz.ld22 Tryz.st22 Tryz.ld24 Tryz.st24 Tryz.ld58 Tryz.st58 Tryz.ld97 Tryz.st97 Tryz.ld101 Tryz.st101 Tryz.ld116 Tryz.st116 Tryz.ld121 Tryz.st121 Tryz.ld135 Tryz.st135 Tryz.ld136 Tryz.st136 Tryz.ld143 Tryz.st143 Tryz.ld148 Tryz.st148 Tryz.ld154 Tryz.st154 Tryz.ld173 Tryz.st173 Tryz.ld187 Tryz.st187 Tryz.ld222 Tryz.st222 Tryz.ld241 Tryz.st241 Tryz.ld248 Tryz.st248 Tryz.ld268 Tryz.st268 Tryz.ld272 Tryz.st272 Tryz.ld153 Tryz.st153 Tryz.ld255 Tryz.st255 Tryz.ld256 Tryz.st256 Tryz.ld129 Tryz.st129 Tryz.ld152 Tryz.st152 Tryz.ld31 Tryz.st31 Tryz.ld46 Tryz.st46 Tryz.ld52 Tryz.st52 Tryz.ld54 Tryz.st54 Tryz.ld60 Tryz.st60 Tryz.ld70 Tryz.st70 Tryz.ld74 Tryz.st74 Tryz.ld93 Tryz.st93 Tryz.ld141 Tryz.st141 Tryz.ld151 Tryz.st151 Tryz.ld170 Tryz.st170 Tryz.ld186 Tryz.st186 Tryz.ld189 Tryz.st189 Tryz.ld194 Tryz.st194 Tryz.ld197 Tryz.st197 Tryz.ld219 Tryz.st219 Tryz.ld224 Tryz.st224 Tryz.ld230 Tryz.st230 Tryz.ld235 Tryz.st235 Tryz.ld243 Tryz.st243 Tryz.ld247 Tryz.st247 Tryz.ld252 Tryz.st252 Tryz.ld258 Tryz.st258 Tryz.al153 Tryz.al255 Tryz.al256 Tryz.al129 Tryz.al152 Tryz.al31 Tryz.al46 Tryz.al52 Tryz.al54 Tryz.al60 Tryz.al70 Tryz.al74 Tryz.al93 Tryz.al141 Tryz.al151 Tryz.al170 Tryz.al186 Tryz.al189 Tryz.al194 Tryz.al197 Tryz.al219 Tryz.al224 Tryz.al230 Tryz.al235 Tryz.al243 Tryz.al247 Tryz.al252 Tryz.al258
attribute [local go_sem] Request.length_enc Request.ok_enc Request.all_get Request.all_set Request.kind_get Request.kind_set Request.blob_get Request.blob_set Request.items_get Request.items_set Request.pred_get Request.pred_set Request.slots_get Request.slots_set Trace.length_enc Trace.ok_enc Trace.all_get Trace.all_set Trace.op_get Trace.op_set Trace.calls_get Trace.calls_set Item.length_enc Item.ok_enc Item.all_get Item.all_set Item.del_get Item.del_set Item.pred_get Item.pred_set Item.args_get Item.args_set Reply.length_enc Reply.ok_enc Reply.all_get Reply.all_set Reply.code_get Reply.code_set Reply.kind_get Reply.kind_set Reply.index_get Reply.index_set Reply.yes_get Reply.yes_set Reply.preds_get Reply.preds_set Reply.rules_get Reply.rules_set Reply.arity_get Reply.arity_set Reply.rows_get Reply.rows_set Reply.fact_get Reply.fact_set Reply.fact_del_get Reply.fact_del_set Reply.fact_pred_get Reply.fact_pred_set Reply.fact_args_get Reply.fact_args_set GEntry.length_enc GEntry.ok_enc GEntry.all_get GEntry.all_set GEntry.seq_get GEntry.seq_set GEntry.kind_get GEntry.kind_set GEntry.code_get GEntry.code_set GOp.length_enc GOp.ok_enc GOp.all_get GOp.all_set GOp.kind_get GOp.kind_set GOp.raw_get GOp.raw_set Reader.length_enc Reader.ok_enc Reader.all_get Reader.all_set Reader.buf_get Reader.buf_set Reader.at__get Reader.at__set Slot.length_enc Slot.ok_enc Slot.all_get Slot.all_set Slot.bound_get Slot.bound_set Slot.name_get Slot.name_set Session.length_enc Session.ok_enc Session.all_get Session.all_set Session.svc_get Session.svc_set Session.buf_get Session.buf_set Session.closed_get Session.closed_set GProgram.length_enc GProgram.ok_enc GProgram.all_get GProgram.all_set GProgram.pool_get GProgram.pool_set GProgram.preds_get GProgram.preds_set GProgram.rules_get GProgram.rules_set GProgram.strata_get GProgram.strata_set PredInfo.length_enc PredInfo.ok_enc PredInfo.all_get PredInfo.all_set PredInfo.arity_get PredInfo.arity_set PredInfo.base_get PredInfo.base_set PredInfo.stratum_get PredInfo.stratum_set Change.length_enc Change.ok_enc Change.all_get Change.all_set Change.del_get Change.del_set Change.pred_get Change.pred_set Change.t_get Change.t_set Store.length_enc Store.ok_enc Store.all_get Store.all_set Store.names_get Store.names_set Store.arity_get Store.arity_set Store.rows_get Store.rows_set Src.length_enc Src.ok_enc Src.all_get Src.all_set Src.b_get Src.b_set Src.at__get Src.at__set Atom.length_enc Atom.ok_enc Atom.all_get Atom.all_set Atom.pred_get Atom.pred_set Atom.args_get Atom.args_set GRule.length_enc GRule.ok_enc GRule.all_get GRule.all_set GRule.head_get GRule.head_set GRule.body_get GRule.body_set GRule.head_pred_get GRule.head_pred_set GRule.head_args_get GRule.head_args_set Cert.length_enc Cert.ok_enc Cert.all_get Cert.all_set Cert.names_get Cert.names_set Cert.nodes_get Cert.nodes_set Fact.length_enc Fact.ok_enc Fact.all_get Fact.all_set Fact.pred_get Fact.pred_set Fact.t_get Fact.t_set Literal.length_enc Literal.ok_enc Literal.all_get Literal.all_set Literal.neg_get Literal.neg_set Literal.atom_get Literal.atom_set Literal.atom_pred_get Literal.atom_pred_set Literal.atom_args_get Literal.atom_args_set Engine.length_enc Engine.ok_enc Engine.all_get Engine.all_set Engine.prog_get Engine.prog_set Engine.st_get Engine.st_set SrcCertm.length_enc SrcCertm.ok_enc SrcCertm.all_get SrcCertm.all_set SrcCertm.b_get SrcCertm.b_set SrcCertm.at__get SrcCertm.at__set GNode.length_enc GNode.ok_enc GNode.all_get GNode.all_set GNode.rule_get GNode.rule_set GNode.pred_get GNode.pred_set GNode.vals_get GNode.vals_set GNode.refs_get GNode.refs_set Term.length_enc Term.ok_enc Term.all_get Term.all_set Term.var_get Term.var_set Term.n_get Term.n_set Env.length_enc Env.ok_enc Env.all_get Env.all_set Env.val_get Env.val_set Env.set_get Env.set_set
attribute [local go_sem] size_put size_ext blk_put free_put blk_alloc free_alloc blk_drew free_drew blk_ext free_ext lookOr_some putOr_some segAt_some cellAt_some storeIn_some put_put put_alloc_new length_arr ok_arr_u8 ok_arr_u32 ok_arr_u64 ok_arr_i64 ok_arr_sl cellsV_agg cellsV_int cellsV_bool cellsV_string cellsV_pointer cellsV_slice cellsV_sl ok_int ok_bool ok_string ok_pointer ok_slice ok_sl toList_arr seg_arr set_arr nth_splice nth_splice0 seg_splice seg_splice0 splice_splice splice_splice0 length_splice_if
attribute [local go_sem ↓] execOp_box
attribute [local go_sem] box_run nth_arr_u8 put_arr_u8 blk_drewN free_drewN put_drewN blk_raw free_raw
/-- What BuildCertFrom is called with. -/
structure BcH (p : PP) (F1 : List (List NRow)) (T : List NStep) (q : Nat) (r : NRow) : Prop where
  ov : overN F1 = false
  mem : r ∈ F1.getD q []
  ql : q < p.preds.length
  fl : F1.length = p.preds.length
  n64 : p.preds.length ≤ 64
  ll : ∀ L ∈ F1, L.length ≤ 512
  r4 : ∀ L ∈ F1, ∀ x ∈ L, x.length ≤ 4
  r4l : r.length ≤ 4
  tl : T.length ≤ 100000
  t4 : ∀ u ∈ T, u.row.length ≤ 4
  tgt : (pI p q).base = false → ∃ j : Nat, plcF T q r = (j : Int) ∧ j < T.length
  stp : ∀ u ∈ T, ∃ rr, p.rules[u.rule]? = some rr ∧ RuFit p.pool rr p.preds.length ∧ u.vals.length = 32 ∧ ∀ z ∈ rr.body, z.neg = false → (pI p z.atom.pred).base = false → ∃ j : Nat, plcF T z.atom.pred (instF p.pool u.vals z.atom) = (j : Int) ∧ j < T.length
  fin : (bcC p T q r).1.length ≤ 300 ∧ (∀ y ∈ (bcC p T q r).1, y.length ≤ 64) ∧ ((bcC p T q r).2.length ≤ 256 → ∀ d ∈ (bcC p T q r).2, CNok d)
def BcPost (W : World) (c : CC) (e : Ending) (V : World) : Prop := ∃ a n cc, e = .returned (.tuple #[.slice a n cc, .bool (decide (c.2.length ≤ 256))]) ∧ W.Extends V ∧ (c.2.length ≤ 256 → Ob W V a n cc (encCt c))
theorem zbuild161 (w : World) (q : Int) (a : Option Addr) (n c : Nat) : (buildOp 161 #[(0, .int .i64 q), (1, .slice a n c)]).run Tryz.prog w = .ok (.value (.agg #[.int .i64 q, .slice a n c, .int .i64 0, .slice none 0 0])) w := by kernel_rfl
theorem zl161 (w : World) (b o : Nat) : (loadOp 161 (.pointer (some ⟨b, o, none⟩))).run Tryz.prog w = lookOr (segAt (blk w b) o 4) w (rawLoad Tryz.prog 161 ⟨b, o, none⟩ w) := load_agg Tryz.underlying161 rfl (by kernel_rfl) w b o
theorem zbuild182a (w : World) (p : Int) : (buildOp 182 #[(0, .int .i64 (-1)), (1, .int .i64 p)]).run Tryz.prog w = .ok (.value (.agg (GNode.enc ⟨-1, p, ⟨none, 0, 0⟩, ⟨none, 0, 0⟩⟩).toArray)) w := by kernel_rfl
theorem zbuild182b (w : World) (p : Int) : (buildOp 182 #[(0, .int .i64 p)]).run Tryz.prog w = .ok (.value (.agg (GNode.enc ⟨p, 0, ⟨none, 0, 0⟩, ⟨none, 0, 0⟩⟩).toArray)) w := by kernel_rfl
def lQ (W V : World) (bn : Nat) (la : Option Addr) (ln lc : Nat) (need : List Bool) (KL : List MStep) (Ls : List NStep) (bc i : Nat) : Prop := ∃ O na nn nc ga gn gc K Gs L, LvS W O V bn la ln lc need KL Ls ∧ CtS W.heap.size O V bc na nn nc ga gn gc K Gs L ∧ (K, L) = (Ls.take i).foldl leS ([], []) ∧ K.length ≤ 4 * i ∧ L.length = i
def dQ (W V : World) (bn : Nat) (la : Option Addr) (ln lc : Nat) (need : List Bool) (bc : Nat) (p : PP) (T : List NStep) (X0 : CC × List NStep) (l0 i : Nat) : Prop := ∃ O KL Dn na nn nc ga gn gc K Gs L, LvS W O V bn la ln lc need KL Dn ∧ CtS W.heap.size O V bc na nn nc ga gn gc K Gs L ∧ ((K, L), Dn) = ruN p T need i X0 ∧ K.length ≤ 4 * l0 + 32 * i ∧ L.length ≤ l0 + i ∧ Dn.length ≤ l0 + i
def yB3 (W : World) (b ob bn bc : Nat) (ta : Option Addr) (tn tc : Nat) (la : Option Addr) (ln lc : Nat) (need : List Bool) (KL : List MStep) (Ls : List NStep) (f : Nat → Value) (V : World) : Prop := f 0 = .pointer (some ⟨b, ob, none⟩) ∧ f 2 = .slice ta tn tc ∧ f 12 = .slice la ln lc ∧ f 13 = .slice (some ⟨bn, 0, none⟩) tn tn ∧ f 18 = .pointer (some ⟨bc, 0, none⟩) ∧ f 19 = .slice la ln lc ∧ ∃ i : Nat, i ≤ ln ∧ f 20 = .int .i64 (i : Nat) ∧ Hid (lQ W V bn la ln lc need KL Ls bc i)
def yB4 (W : World) (b ob bn bc bt i : Nat) (ta : Option Addr) (tn tc : Nat) (la : Option Addr) (ln lc : Nat) (rn : Nat) (P : World → Nat → Prop) (f : Nat → Value) (V : World) : Prop := f 0 = .pointer (some ⟨b, ob, none⟩) ∧ f 2 = .slice ta tn tc ∧ f 12 = .slice la ln lc ∧ f 13 = .slice (some ⟨bn, 0, none⟩) tn tn ∧ f 18 = .pointer (some ⟨bc, 0, none⟩) ∧ f 19 = .slice la ln lc ∧ f 20 = .int .i64 (i : Nat) ∧ f 21 = .pointer (some ⟨bt, 0, none⟩) ∧ ∃ k : Nat, k ≤ rn ∧ f 22 = .int .i64 (k : Nat) ∧ Hid (P V k)
def yB5 (W : World) (b ob bn bc : Nat) (ta : Option Addr) (tn tc : Nat) (P : World → Option Addr → Nat → Nat → Nat → Prop) (f : Nat → Value) (V : World) : Prop := f 0 = .pointer (some ⟨b, ob, none⟩) ∧ f 2 = .slice ta tn tc ∧ f 13 = .slice (some ⟨bn, 0, none⟩) tn tn ∧ f 18 = .pointer (some ⟨bc, 0, none⟩) ∧ ∃ (i : Nat) (la : Option Addr) (ln lc : Nat), i ≤ tn ∧ f 23 = .int .i64 (i : Nat) ∧ f 19 = .slice la ln lc ∧ Hid (P V la ln lc i)
def yB6 (W : World) (b ob bn bc bt i : Nat) (ta : Option Addr) (tn tc : Nat) (la : Option Addr) (ln lc : Nat) (rn : Nat) (P : World → Nat → Prop) (f : Nat → Value) (V : World) : Prop := f 0 = .pointer (some ⟨b, ob, none⟩) ∧ f 2 = .slice ta tn tc ∧ f 13 = .slice (some ⟨bn, 0, none⟩) tn tn ∧ f 18 = .pointer (some ⟨bc, 0, none⟩) ∧ f 19 = .slice la ln lc ∧ f 23 = .int .i64 (i : Nat) ∧ f 24 = .pointer (some ⟨bt, 0, none⟩) ∧ ∃ k : Nat, k ≤ rn ∧ f 25 = .int .i64 (k : Nat) ∧ Hid (P V k)
def yB7 (W : World) (b ob bn bc bt i : Nat) (ta : Option Addr) (tn tc : Nat) (la : Option Addr) (ln lc : Nat) (xa : Option Addr) (xn xc : Nat) (P : World → Nat → Prop) (f : Nat → Value) (V : World) : Prop := f 0 = .pointer (some ⟨b, ob, none⟩) ∧ f 2 = .slice ta tn tc ∧ f 13 = .slice (some ⟨bn, 0, none⟩) tn tn ∧ f 18 = .pointer (some ⟨bc, 0, none⟩) ∧ f 19 = .slice la ln lc ∧ f 23 = .int .i64 (i : Nat) ∧ f 24 = .pointer (some ⟨bt, 0, none⟩) ∧ f 26 = .slice xa xn xc ∧ ∃ k : Nat, k ≤ xn ∧ f 27 = .int .i64 (k : Nat) ∧ Hid (P V k)
def yB1 (W : World) (b ob bn : Nat) (ta : Option Addr) (tn tc : Nat) (p : PP) (T : List NStep) (tot : NX) (f : Nat → Value) (V : World) : Prop := f 0 = .pointer (some ⟨b, ob, none⟩) ∧ f 2 = .slice ta tn tc ∧ f 13 = .slice (some ⟨bn, 0, none⟩) tn tn ∧ ∃ (i : Nat) (la : Option Addr) (ln lc : Nat), i ≤ tn ∧ f 14 = .int .i64 ((i : Int) - 1) ∧ f 12 = .slice la ln lc ∧ Hid (∃ O need KL Ls, LvS W O V bn la ln lc need KL Ls ∧ need.length = tn ∧ Ls.length ≤ 1 + 1000 * (tn - i) ∧ ndL p T i (need, Ls) = tot)
def yB2 (W : World) (b ob bn : Nat) (ta : Option Addr) (tn tc : Nat) (i : Nat) (xa : Option Addr) (xn xc : Nat) (p : PP) (T : List NStep) (u : NStep) (body : List PL) (X0 : NX) (nb : Bool) (f : Nat → Value) (V : World) : Prop := f 0 = .pointer (some ⟨b, ob, none⟩) ∧ f 2 = .slice ta tn tc ∧ f 13 = .slice (some ⟨bn, 0, none⟩) tn tn ∧ f 14 = .int .i64 (i : Nat) ∧ f 15 = .slice xa xn xc ∧ ∃ (k : Nat) (la : Option Addr) (ln lc : Nat), k ≤ xn ∧ f 16 = .int .i64 (k : Nat) ∧ f 12 = .slice la ln lc ∧ Hid (∃ O need KL Ls, LvS W O V bn la ln lc need KL Ls ∧ need.length = tn ∧ Ls.length ≤ 1 + 1000 * (tn - (i + 1)) + k ∧ (need, Ls) = (body.take k).foldl (ndZ p T u) X0 ∧ (nb = false → k = 0))
set_option maxRecDepth 100000 in
theorem zframe308 (f : Nat → Value) : frameN 308 f = #[f 0, f 1, f 2, f 3, f 4, f 5, f 6, f 7, f 8, f 9, f 10, f 11, f 12, f 13, f 14, f 15, f 16, f 17, f 18, f 19, f 20, f 21, f 22, f 23, f 24, f 25, f 26, f 27, f 28, f 29, f 30, f 31, f 32, f 33, f 34, f 35, f 36, f 37, f 38, f 39, f 40, f 41, f 42, f 43, f 44, f 45, f 46, f 47, f 48, f 49, f 50, f 51, f 52, f 53, f 54, f 55, f 56, f 57, f 58, f 59, f 60, f 61, f 62, f 63, f 64, f 65, f 66, f 67, f 68, f 69, f 70, f 71, f 72, f 73, f 74, f 75, f 76, f 77, f 78, f 79, f 80, f 81, f 82, f 83, f 84, f 85, f 86, f 87, f 88, f 89, f 90, f 91, f 92, f 93, f 94, f 95, f 96, f 97, f 98, f 99, f 100, f 101, f 102, f 103, f 104, f 105, f 106, f 107, f 108, f 109, f 110, f 111, f 112, f 113, f 114, f 115, f 116, f 117, f 118, f 119, f 120, f 121, f 122, f 123, f 124, f 125, f 126, f 127, f 128, f 129, f 130, f 131, f 132, f 133, f 134, f 135, f 136, f 137, f 138, f 139, f 140, f 141, f 142, f 143, f 144, f 145, f 146, f 147, f 148, f 149, f 150, f 151, f 152, f 153, f 154, f 155, f 156, f 157, f 158, f 159, f 160, f 161, f 162, f 163, f 164, f 165, f 166, f 167, f 168, f 169, f 170, f 171, f 172, f 173, f 174, f 175, f 176, f 177, f 178, f 179, f 180, f 181, f 182, f 183, f 184, f 185, f 186, f 187, f 188, f 189, f 190, f 191, f 192, f 193, f 194, f 195, f 196, f 197, f 198, f 199, f 200, f 201, f 202, f 203, f 204, f 205, f 206, f 207, f 208, f 209, f 210, f 211, f 212, f 213, f 214, f 215, f 216, f 217, f 218, f 219, f 220, f 221, f 222, f 223, f 224, f 225, f 226, f 227, f 228, f 229, f 230, f 231, f 232, f 233, f 234, f 235, f 236, f 237, f 238, f 239, f 240, f 241, f 242, f 243, f 244, f 245, f 246, f 247, f 248, f 249, f 250, f 251, f 252, f 253, f 254, f 255, f 256, f 257, f 258, f 259, f 260, f 261, f 262, f 263, f 264, f 265, f 266, f 267, f 268, f 269, f 270, f 271, f 272, f 273, f 274, f 275, f 276, f 277, f 278, f 279, f 280, f 281, f 282, f 283, f 284, f 285, f 286, f 287, f 288, f 289, f 290, f 291, f 292, f 293, f 294, f 295, f 296, f 297, f 298, f 299, f 300, f 301, f 302, f 303, f 304, f 305, f 306, f 307] := by kernel_rfl
theorem fold_need {p : PP} {T : List NStep} {u : NStep} {i : Nat} : ∀ (Z : List PL) (X : NX), X.1.getD i false = true → (Z.foldl (ndZ p T u) X).1.getD i false = true
  | [], X, h => h
  | z :: Z, X, h => fold_need Z _ (ndZ_need p T u X z i h)
attribute [local go_sem ↓] execOp_make execOp_build execOp_bslice
attribute [local go_sem] Tryz.zl75 Tryz.zs75 Tryz.zl52 Tryz.zs52 zbuild161 zl161 bslice53_lit zbuild182a zbuild182b bslice180 bslice217
set_option maxRecDepth 40000 in
set_option maxHeartbeats 40000000 in
theorem build_any (W : World) (b ob : Nat) (p : PP) (hp : ProgO W b ob p) (fa : Option Addr) (fn fc : Nat) (F1 : List (List NRow)) (hF : FactsAt W fa fn F1) (ta : Option Addr) (tn tc : Nat) (T : List NStep) (hT : StepsAt W ta tn T) (q : Nat) (wa : Option Addr) (wn wc : Nat) (r : NRow) (hr : Rw encS 1 W wa wn r) (H : BcH p F1 T q r) : Calls Tryz.prog 33 #[.pointer (some ⟨b, ob, none⟩), .slice fa fn fc, .slice ta tn tc, .int .i64 (q : Int), .slice wa wn wc] W (BcPost W (bcC p T q r)) := by
  obtain ⟨Q, hQ⟩ : ∃ Q, Q = BcPost W (bcC p T q r) := ⟨_, rfl⟩
  rw [← hQ]
  have HQ := hid_of hQ
  have HH := hid_of H
  have HT := hid_of hT
  have HR := hid_of hr
  have HPO := hid_of hp
  obtain ⟨Ce, pa, pn, pc, da, dn, dc, ga00, gn00, gc00, hb, hol, c0, c1, c2, c3, hPl, hPr, Rs, hRs, hRl, hRC⟩ := hp.cells
  have HB := hid_of hb
  have hcl1 : ob + 1 < Ce.length := by omega
  have hcl2 : ob + 2 < Ce.length := by omega
  have HPR := hid_of hPr
  have HRUL : Hid (∀ (i : Nat) (rr : PR), p.rules[i]? = some rr → ∃ (bu : Nat) (CU : List Value) (x : GRule), ga00 = some ⟨bu, 0, none⟩ ∧ blk W bu = some CU ∧ i * 3 + 3 ≤ CU.length ∧ nth CU (i * 3 + 2) = some (.slice x.body.a x.body.len x.body.cap) ∧ RuleC W x rr ∧ rr.body.length = x.body.len) := fun i rr h => by
    obtain ⟨bu, CU, x, h1, h2, h3, -, -, -, h7, h8, h9⟩ := rule_at hRs hRl hRC h
    exact ⟨bu, CU, x, h1, h2, h3, h7, h8, h9⟩
  have HGN : Hid (gn00 = p.rules.length) := hRs.1.symm.trans hRl
  have hTl : T.length = tn := hT.choose_spec.2.1
  have HTL := hid_of hTl
  have htn : tn ≤ 100000 := by rw [← hTl]; exact H.tl
  have hFl : F1.length = fn := by obtain ⟨K, h1, h2, -⟩ := hF; exact h2
  have hqn : q < fn := by rw [← hFl, H.fl]; exact H.ql
  have hF1q : F1[q]? = some (F1.getD q []) := by rw [List.getD_eq_getElem?_getD, List.getElem?_eq_getElem (by rw [hFl]; exact hqn)]; rfl
  obtain ⟨bq, Cq, sq, rfl, y1, y2, y3, y4⟩ := hF.at hF1q
  obtain ⟨sa, sn, sc⟩ := sq
  dsimp only at y3 y4
  have hsn : (F1.getD q []).length = sn := y4.choose_spec.2.1
  have hsb : sn ≤ 512 := by rw [← hsn]; exact H.ll _ (List.mem_of_getElem? hF1q)
  have hov := overN_any W (some ⟨bq, 0, none⟩) fn fc (by have := H.n64; have := H.fl; omega) F1 hF
  rw [H.ov] at hov
  have hmem := member_names W sa wa sn wn sc wc (by omega) (F1.getD q []) r y4 (fun x hx => Nat.le_trans (H.r4 _ (List.mem_of_getElem? hF1q) x hx) (by decide)) hr
  rw [decide_eq_true H.mem] at hmem
  have q0 : (0 : Int) ≤ (q : Int) := by omega
  have q2 : ((q : Int)).toNat = q := by omega
  have q1 : (q : Int) < (fn : Int) := by omega
  have hdn : p.preds.length = dn := hPr.1
  have hqd : (q : Int) < (dn : Int) := by have := H.ql; omega
  obtain ⟨bd, Cd, rfl, g1, g2, g3⟩ := hPr.2 q _ (pI_at H.ql)
  obtain ⟨bb, ebb⟩ : ∃ bb, bb = (pI p q).base := ⟨_, rfl⟩
  have nb1 : nth Cd (q * 3 + 1) = some (.bool bb) := by
    rw [ebb]
    exact nth_in (j := 1) g3 (show nth (PredInfo.enc (pI p q)) 1 = some (.bool (pI p q).base) from rfl) (by omega)
  have l9 : (q + 1) * 3 ≤ dn * 3 := Nat.mul_le_mul_right _ (by have := H.ql; omega)
  have lb1 : q * 3 + 1 < Cd.length := by omega
  have HG1 := hid_of g1
  have HBB := hid_of ebb
  have HDN := hid_of hdn
  have hmk : ∀ w, (makeOp 174 (.int .i64 (tn : Int)) (.int .i64 (tn : Int))).run Tryz.prog w = .ok (.value (.slice (some ⟨w.heap.size, 0, none⟩) tn tn)) (w.alloc (.cells (bolC (List.replicate tn false)).toArray 4)) := fun w => zmake174 w tn htn
  obtain ⟨MC, hMC⟩ : ∃ MC, MC = (bolC (List.replicate tn false)).toArray := ⟨_, rfl⟩
  simp only [← hMC] at hmk
  have HMC := hid_of hMC
  have hdn64 : dn ≤ 64 := by have := H.n64; omega
  clear hQ H hT hr hPl hPr hRs hRl hRC hTl hFl hF1q hp hF hsn g1 g2 g3 ebb l9 hdn y4 c3 hMC
  go_enter Tryz.func33, Tryz.ntmps33
  go_wp2_with fail
  refine hov.mono ?_
  rintro e V0 ⟨rfl, e0⟩
  dsimp only
  rw [e0]
  clear hov e0 V0
  go_wp2_with fail
  refine hmem.mono ?_
  rintro e V1 ⟨rfl, k1, e1⟩
  dsimp only
  have HX1 : Hid (W.Extends V1) := by show World.Extends _ _; rw [e1]; exact extends_drewN (ext_Ext (Ext.refl _)) k1
  have hs1 : V1.heap.size = W.heap.size := by rw [e1]; rfl
  have HS1 := hid_of hs1
  have hb1 : blk V1 b = some Ce := (HX1.out.blk (blk_lt hb)).trans hb
  have hg1 : blk V1 bd = some Cd := (HX1.out.blk (blk_lt HG1.out)).trans HG1.out
  clear hmem e1 hs1 y1
  go_upto_region 5 with fail
  refine wp_world (fun V' => V1.Extends V' ∧ blk V' V1.heap.size = some (bolC (List.replicate tn false)) ∧ free V' V1.heap.size = true) ⟨extends_alloc (ext_Ext (Ext.refl _)) _, by rw [blk_alloc, if_pos rfl, HMC.out], by rw [free_alloc, if_pos rfl]⟩ ?_
  rintro V2 ⟨hx2, hbn, hfn⟩
  obtain ⟨bn, ebn⟩ : ∃ bn, bn = V1.heap.size := ⟨_, rfl⟩
  rw [← ebn] at hbn hfn ⊢
  have HX2 : Hid (W.Extends V2) := HX1.out.trans hx2
  have hLv : LvS W (lab (fun _ => .no) V1.heap.size (.a 9 1)) V2 bn none 0 0 (List.replicate tn false) [] [] := ⟨HX2.out, fun k hk => lab_lt (by rw [HS1.out]; exact hk), hbn, hfn, by rw [ebn]; exact lab_ge (Nat.le_refl _), ⟨ownsNil _ _ _ _, fun k hk => by cases hk⟩, rfl, (fun i k s h1 => by simp at h1), fun s hs => by cases hs⟩
  obtain ⟨O2, eO2⟩ : ∃ O2, O2 = lab (fun _ => Lab.no) V1.heap.size (.a 9 1) := ⟨_, rfl⟩
  rw [← eO2] at hLv
  have HLV := hid_of hLv
  have hb2 : blk V2 b = some Ce := (hx2.blk (blk_lt hb1)).trans hb1
  have hg2 : blk V2 bd = some Cd := (hx2.blk (blk_lt hg1)).trans hg1
  clear hx2 ebn hLv eO2 hb1 hg1 HX1 HS1
  go_upto_if 49 with fail
  obtain ⟨I1, hI1⟩ : ∃ I : (Nat → Value) → World → Prop, I = fun f V => f 0 = .pointer (some ⟨b, ob, none⟩) ∧ f 2 = .slice ta tn tc ∧ f 13 = .slice (some ⟨bn, 0, none⟩) tn tn ∧ ∃ la ln lc, f 12 = .slice la ln lc ∧ Hid (∃ O need KL Ls, LvS W O V bn la ln lc need KL Ls ∧ need.length = tn ∧ Ls.length ≤ 1 ∧ (need, Ls) = bcX0 p T q r) := ⟨_, rfl⟩
  have HI1 := hid_of hI1
  clear hI1
  refine wp_cut_f 308 I1 ?_ ?_
  · cases bb with
    | true =>
      have hX0 : bcX0 p T q r = (List.replicate tn false, [⟨q, r, 0, []⟩]) := by unfold bcX0; rw [if_pos HBB.out.symm, HTL.out]
      have HX0 := hid_of hX0
      obtain ⟨la, lc, V3, hrun, hL3, -⟩ := HLV.out.app ⟨(q : Int), ⟨wa, wn, wc⟩, 0, ⟨none, 0, 0⟩⟩ ⟨q, r, 0, []⟩ ⟨rfl, rfl, HR.out.sub HLV.out.base, ⟨rfl, fun i x hx => by simp at hx⟩⟩ HH.out.r4l (by simp) #[.int .i64 (q : Int), .slice wa wn wc, .int .i64 0, .slice none 0 0] rfl
      have HL3 := hid_of hL3
      clear hX0 hL3
      go_wp2_with (at_builtin; refine wpList_append_run rfl _ _ 53 rfl _ _ _ _ rfl rfl hrun ?_)
      refine ⟨rfl, rfl, ?_⟩
      rw [HI1.out]
      exact ⟨rfl, rfl, rfl, la, 0 + 1, lc, rfl, _, _, _, _, HL3.out, List.length_replicate, Nat.le_refl _, HX0.out.symm⟩
    | false =>
      obtain ⟨j, hj, hjn⟩ := HH.out.tgt HBB.out.symm
      rw [HTL.out] at hjn
      have hX0 : bcX0 p T q r = ((List.replicate tn false).set j true, []) := by unfold bcX0; rw [if_neg (by rw [← HBB.out]; decide), HTL.out, hj, Int.toNat_natCast]
      have HX0 := hid_of hX0
      have hpl := place_any V2 ta tn tc (by omega) T (HT.out.sub (Sub.ext HX2.out)) (fun s hs => Nat.le_trans (HH.out.t4 s hs) (by decide)) q wa wn wc r (HR.out.sub (Sub.ext HX2.out))
      rw [hj] at hpl
      obtain ⟨BC, eBC⟩ : ∃ BC, BC = bolC (List.replicate tn false) := ⟨_, rfl⟩
      have hBl : BC.length = tn := by rw [eBC, bolC_len, List.length_replicate]
      have hjl : j < BC.length := by omega
      have hjl1 : j + 1 ≤ BC.length := by omega
      have j0 : (0 : Int) ≤ (j : Int) := by omega
      have j1 : (j : Int) < (tn : Int) := by omega
      have j2 : ((j : Int)).toNat = j := by omega
      rw [← eBC] at hbn
      have HSP : Hid (splice BC j [.bool true] = bolC ((List.replicate tn false).set j true)) := by show _ = _; rw [eBC]; exact bolC_set true (by rw [List.length_replicate]; exact hjn)
      clear hj hX0 eBC
      go_wp2_with fail
      refine hpl.mono ?_
      rintro e V3 ⟨rfl, k3, e3⟩
      dsimp only
      have hbn3 : blk V3 bn = some BC := by rw [e3, blk_drewN]; exact hbn
      have hfn3 : free V3 bn = true := by rw [e3, free_drewN]; exact hfn
      have HL3 : Hid (LvS W O2 (put V3 bn (splice BC j [.bool true])) bn none 0 0 ((List.replicate tn false).set j true) [] []) := by
        show LvS _ _ _ _ _ _ _ _ _ _
        rw [HSP.out, e3]
        exact (HLV.out.drewN k3).set _ List.length_set
      clear hpl e3 hbn hfn
      go_wp2_with fail
      refine ⟨rfl, rfl, ?_⟩
      rw [HI1.out]
      exact ⟨rfl, rfl, rfl, none, 0, 0, rfl, _, _, _, _, HL3.out, by rw [List.length_set, List.length_replicate], by simp, HX0.out.symm⟩
  intro f V3 hI
  rw [HI1.out] at hI
  obtain ⟨f0, f2, f13, la, ln, lc, f12, HLB⟩ := hI
  rw [zframe308, f0, f2, f12, f13]
  clear f0 f2 f12 f13 HLV hb2 hg2 hbn hfn hmk HMC HI1 nb1 lb1 HG1 HBB hqd q0 q1 q2 y2 y3 hqn HX2
  have hw1 : IntKind.i64.wrap ((tn : Int) - 1) = (tn : Int) - 1 := by rw [IntKind.wrap_i64]; omega
  obtain ⟨tot, etot⟩ : ∃ tot, tot = bcX p T q r := ⟨_, rfl⟩
  have HTOT := hid_of etot
  clear etot
  have HJ0 : Hid (∃ O need KL Ls, LvS W O V3 bn la ln lc need KL Ls ∧ need.length = tn ∧ Ls.length ≤ 1 + 1000 * (tn - tn) ∧ ndL p T tn (need, Ls) = tot) := by
    obtain ⟨O, need, KL, Ls, h1, h2, h3, h4⟩ := HLB.out
    refine ⟨O, need, KL, Ls, h1, h2, by omega, ?_⟩
    rw [HTOT.out, h4, ← HTL.out]; rfl
  clear HLB
  go_upto_region 9 with fail
  try rw [hw1]
  refine wp_loop_f 308 (yB1 W b ob bn ta tn tc p T tot) (fun f _ => (intOf (f 14) + 1).toNat) rfl ⟨rfl, rfl, rfl, tn, la, ln, lc, Nat.le_refl _, rfl, rfl, HJ0⟩ ?_
  clear HJ0 hw1
  intro F V4 hrel
  obtain ⟨f0, f2, f13, i, la, ln, lc, hi, f14, f12, HL⟩ := hrel
  have H14 := hid_of f14
  by_cases hi0 : i = 0
  · subst hi0
    have e14 : F 14 = .int .i64 (-1) := by rw [f14]; rfl
    rw [zframe308, f0, f2, f12, f13, e14]
    clear f0 f2 f12 f13 f14 e14 H14
    obtain ⟨O4, need, KL, Ls, hLv, hnl, hll, htot⟩ := HL.out
    have htt : (need, Ls) = tot := htot
    have HTT := hid_of htt
    have HLV := hid_of hLv
    have hln : Ls.length = ln := hLv.n
    have HLN := hid_of hln
    have hlb : ln ≤ 100000001 := by omega
    clear hLv htot htt HL hln
    go_upto_region 22 with fail
    refine wp_world (fun V' => V4.Extends V' ∧ blk V' V4.heap.size = some [.slice none 0 0, .slice none 0 0] ∧ free V' V4.heap.size = true) ⟨extends_alloc (ext_Ext (Ext.refl _)) _, by rw [blk_alloc, if_pos rfl]; try rfl, by rw [free_alloc, if_pos rfl]⟩ ?_
    rintro V5 ⟨hx5, hbc, hfc⟩
    obtain ⟨bc, ebc⟩ : ∃ bc, bc = V4.heap.size := ⟨_, rfl⟩
    rw [← ebc] at hbc hfc ⊢
    have hFn := fr_new (O := O4) hx5 (.a 9 2)
    have HQ3 : Hid (lQ W V5 bn la ln lc need KL Ls bc 0) := by
      refine ⟨_, none, 0, 0, none, 0, 0, [], [], [], HLV.out.fr hFn (lab9 (by decide)) (lab9 (by decide)) (fun e => by cases e), ⟨⟨hbc, hfc, by rw [ebc]; exact lab_ge (Nat.le_refl _), ⟨ownsNil _ _ _ _, fun k hk => by cases hk⟩, Nat.le_trans HLV.out.ext.size hx5.size⟩, ⟨ownsNil _ _ _ _, fun k hk => by cases hk⟩, ⟨rfl, fun i l p h1 => by simp at h1⟩⟩, rfl, Nat.zero_le _, rfl⟩
    clear hx5 hbc hfc ebc hFn HLV
    go_upto_region 24 with fail
    refine wp_loop_f 308 (yB3 W b ob bn bc ta tn tc la ln lc need KL Ls) (fun f _ => ln - (intOf (f 20)).toNat) rfl ⟨rfl, rfl, rfl, rfl, rfl, rfl, 0, by omega, rfl, HQ3⟩ ?_
    clear HQ3
    intro G V6 hrel
    obtain ⟨f0, f2, f12, f13, f18, f19, i, hi, f20, HP⟩ := hrel
    have H20 := hid_of f20
    rw [zframe308, f0, f2, f12, f13, f18, f19, f20]
    clear f0 f2 f12 f13 f18 f19 f20
    by_cases hin : i < ln
    rotate_left 1
    · have hin' : ¬ (i : Int) < (ln : Int) := by omega
      obtain ⟨O6, na, nn, nc, ga, gn, gc, K0, Gs, L, hL6, hC6, hfo, hkb, hlk⟩ := HP.out
      obtain ⟨X0, eX0⟩ : ∃ X0 : CC × List NStep, X0 = (Ls.foldl leS ([], []), Ls) := ⟨_, rfl⟩
      have HX0 := hid_of eX0
      have HQ5 : Hid (dQ W V6 bn la ln lc need bc p T X0 ln 0) := by
        refine ⟨O6, KL, Ls, na, nn, nc, ga, gn, gc, K0, Gs, L, hL6, hC6, ?_, by omega, by omega, by rw [HLN.out]; omega⟩
        rw [hfo, List.take_of_length_le (by rw [HLN.out]; omega), eX0]
        rfl
      have hnl5 := hnl
      clear hL6 hC6 hfo hkb hlk HP eX0
      go_upto_region 33 with fail
      refine wp_loop_f 308 (yB5 W b ob bn bc ta tn tc (fun V la ln1 lc i => dQ W V bn la ln1 lc need bc p T X0 ln i)) (fun f _ => tn - (intOf (f 23)).toNat) rfl ⟨rfl, rfl, rfl, rfl, 0, la, ln, lc, by omega, rfl, rfl, HQ5⟩ ?_
      clear HQ5
      intro G5 V7 hrel
      obtain ⟨f0, f2, f13, f18, i5, la5, ln5, lc5, hi5, f23, f19, HP5⟩ := hrel
      have H23 := hid_of f23
      rw [zframe308, f0, f2, f13, f18, f19, f23]
      clear f0 f2 f13 f18 f19 f23
      obtain ⟨O7, KD, Dn, na, nn, nc, ga, gn, gc, K0, Gs, L, hL7, hC7, hru, hkb, hlk, hdk⟩ := HP5.out
      by_cases hit : i5 < tn
      rotate_left 1
      · have hit' : ¬ (i5 : Int) < (tn : Int) := by omega
        have e5 : i5 = tn := by omega
        have hfin : bcC p T q r = (K0, L) := by
          have hX : bcX p T q r = (need, Ls) := by rw [← HTOT.out, ← HTT.out]
          unfold bcC
          rw [hX]
          dsimp only
          rw [HTL.out, ← HX0.out, ← e5, ← hru]
        have HFIN := hid_of hfin
        have hgl : Gs.length = gn := (hC7.nd.rw GNode.length_enc).1.1
        have hgL : L.length = gn := hC7.ns.1.symm.trans hgl
        have HX7 := hid_of hL7.ext
        obtain ⟨CE, eCE⟩ : ∃ CE, CE = Cert.enc ⟨⟨na, nn, nc⟩, ⟨ga, gn, gc⟩⟩ := ⟨_, rfl⟩
        have ce1 : nth CE 1 = some (.slice ga gn gc) := by rw [eCE]; rfl
        have cel : CE.length = 2 := by rw [eCE]; rfl
        have cel1 : 1 < CE.length := by omega
        have cel2 : 0 + 2 ≤ CE.length := by omega
        have csg : seg CE 0 2 = CE := seg_all _ _ cel
        have cok : okCells 2 CE = true := by rw [eCE]; exact Cert.ok_enc _
        have hbc7 : blk V7 bc = some CE := by rw [eCE]; exact hC7.nm.cell
        have hcer : CertC V7 ⟨⟨na, nn, nc⟩, ⟨ga, gn, gc⟩⟩ (K0, L) := ⟨(hC7.nm.row.rw encS_len).1, Gs, (hC7.nd.rw GNode.length_enc).1, hC7.ns.sub (Sub.core _ _)⟩
        have HCER := hid_of hcer
        have HGL := hid_of hgL
        have HECE := hid_of eCE
        clear eCE hru hL7 hC7 hkb hlk hdk HP5 hfin hgl hgL hcer e5
        by_cases h256 : 256 < gn
        · have h1 : (256 : Int) < (gn : Int) := by omega
          have HP : Hid (Q (.returned (.tuple #[.slice none 0 0, .bool false])) V7) := by
            show Q _ _
            rw [HQ.out, HFIN.out]
            have hL9 : ¬ L.length ≤ 256 := by rw [HGL.out]; omega
            exact ⟨none, 0, 0, by rw [decide_eq_false hL9], HX7.out, fun h => absurd h hL9⟩
          go_wp2_with fail
          exact HP.out
        have h1 : ¬ (256 : Int) < (gn : Int) := by omega
        have hfn := HH.out.fin
        rw [HFIN.out] at hfn
        have hL9 : L.length ≤ 256 := by rw [HGL.out]; omega
        have hen := cencode_any V7 ⟨⟨na, nn, nc⟩, ⟨ga, gn, gc⟩⟩ (K0, L) HCER.out hfn.1 hfn.2.1 hL9 (hfn.2.2 hL9)
        rw [← HECE.out] at hen
        have HL9 := hid_of hL9
        clear hfn hL9 HECE HCER
        go_wp2_with fail
        refine hen.mono ?_
        rintro e VE ⟨ae, ne, ce, rfl, hoe⟩
        dsimp only
        have HP : Hid (Q (.returned (.tuple #[.slice ae ne ce, .bool true])) VE) := by
          show Q _ _
          rw [HQ.out, HFIN.out]
          exact ⟨ae, ne, ce, by rw [decide_eq_true HL9.out], HX7.out.trans hoe.2.1, fun _ => ⟨row_base hoe.1 HX7.out.size, HX7.out.trans hoe.2.1, hoe.2.2⟩⟩
        clear hen hoe
        go_wp2_with fail
        exact HP.out
      have hit' : (i5 : Int) < (tn : Int) := by omega
      have j0 : (0 : Int) ≤ (i5 : Int) := by omega
      have j2 : ((i5 : Int)).toNat = i5 := by omega
      obtain ⟨u, hu⟩ : ∃ u, T[i5]? = some u := ⟨_, List.getElem?_eq_getElem (by rw [HTL.out]; exact hit)⟩
      obtain ⟨NC, eNC⟩ : ∃ NC, NC = bolC need := ⟨_, rfl⟩
      obtain ⟨nb, enb⟩ : ∃ nb, nb = need.getD i5 false := ⟨_, rfl⟩
      have hNi : nth NC i5 = some (.bool nb) := by rw [eNC, bolC_at (by omega), enb]
      have hNil : i5 < NC.length := by rw [eNC, bolC_len]; omega
      have hbn7 : blk V7 bn = some NC := by rw [eNC]; exact hL7.nb
      have HRU := hid_of hru
      have HUU := hid_of hu
      have HNB := hid_of enb
      have HL7 := hid_of hL7
      have HC7 := hid_of hC7
      have HKB5 := hid_of hkb
      have HLK5 := hid_of hlk
      have HDK5 := hid_of hdk
      have HRS : Hid (ruN p T need (i5 + 1) X0 = if nb = true then ruS p ((K0, L), Dn) u else ((K0, L), Dn)) := by
        show _ = _
        rw [ruN_succ, ← hru]
        unfold ruI
        rw [hu, ← enb]
      clear hru hu eNC enb hL7 hC7 hkb hlk hdk HP5
      cases nb with
      | false =>
        have HQ : Hid (dQ W V7 bn la5 ln5 lc5 need bc p T X0 ln (i5 + 1)) := ⟨O7, KD, Dn, na, nn, nc, ga, gn, gc, K0, Gs, L, HL7.out, HC7.out, by rw [HRS.out]; rfl, by have := HKB5.out; omega, by have := HLK5.out; omega, by have := HDK5.out; omega⟩
        go_wp2_with fail
        refine ⟨rfl, rfl, ⟨rfl, rfl, rfl, rfl, i5 + 1, la5, ln5, lc5, by omega, ?_, rfl, HQ⟩, ?_⟩
        · show Value.int .i64 _ = _
          go_num
        · show tn - (intOf (Value.int .i64 _)).toNat < tn - (intOf (G5 23)).toNat
          rw [H23.out]
          simp [intOf]; omega
      | true =>
        obtain ⟨rr, hrr, hfit, hvl, hplc⟩ := HH.out.stp u (List.mem_of_getElem? HUU.out)
        have hu4 := HH.out.t4 u (List.mem_of_getElem? HUU.out)
        obtain ⟨KT, hKT, hKT2, hKT3⟩ := HT.out
        obtain ⟨kt, hkt⟩ : ∃ kt, KT[i5]? = some kt := ⟨_, List.getElem?_eq_getElem (by have := hKT.1; omega)⟩
        obtain ⟨bL, CL, rfl, t1, t2, t3⟩ := hKT.2 i5 kt hkt
        have t7 := hKT3 i5 kt u hkt HUU.out
        obtain ⟨bu, CU, xr, rfl, u1, u2, u3, u4, u5⟩ := HRUL.out u.rule rr hrr
        obtain ⟨xh, ⟨xa, xn, xc⟩⟩ := xr
        dsimp only at u3 u5
        have hbody : bodyOf p u = rr.body := by unfold bodyOf; rw [List.getD_eq_getElem?_getD, hrr]; rfl
        have hrl : u.rule < gn00 := by rw [HGN.out]; exact (List.getElem?_eq_some_iff.1 hrr).1
        obtain ⟨ktp, ⟨kra, krn, krc⟩, ktr, ⟨va, vn, vc⟩⟩ := kt
        have e2 : ktr = (u.rule : Int) := t7.2.1
        have e1 : ktp = (u.pred : Int) := t7.1
        subst e1 e2
        have m2 : nth CL (i5 * 4 + 2) = some (.int .i64 (u.rule : Int)) := nth_in (j := 2) t3 rfl (by omega)
        have m3 : nth CL (i5 * 4 + 3) = some (.slice va vn vc) := nth_in (j := 3) t3 rfl (by omega)
        have l9 : (i5 + 1) * 4 ≤ tn * 4 := Nat.mul_le_mul_right _ hit
        have c2' : i5 * 4 + 2 < CL.length := by omega
        have c3' : i5 * 4 + 3 < CL.length := by omega
        have hvn : u.vals.length = vn := t7.2.2.2.1
        have hvn33 : vn ≤ 32 := by have h8 := hvn; have h9 := hvl; omega
        obtain ⟨ur, eur⟩ : ∃ ur, ur = u.rule := ⟨_, rfl⟩
        rw [← eur] at m2 u2 u3 hrl
        have HT1 := hid_of t1
        have HT3 := hid_of t3
        have HT7 := hid_of t7
        have HU1 := hid_of u1
        have HU4 := hid_of u4
        have HU5 := hid_of u5
        have HFIT := hid_of hfit
        have HVL := hid_of hvl
        have HBODY := hid_of hbody
        have HSRL := hid_of hvn
        have HUR := hid_of eur
        have HUW := hid_of hu4
        have r0 : (0 : Int) ≤ (ur : Int) := by omega
        have r1 : (ur : Int) < (gn00 : Int) := by omega
        have r2 : ((ur : Int)).toNat = ur := by omega
        have cu2 : ur * 3 + 2 < CU.length := by omega
        have hbL7 : blk V7 bL = some CL := (HL7.out.ext.blk (blk_lt t1)).trans t1
        clear t1 t2 t3 t7 hKT hKT2 hKT3 hkt u1 u2 u4 u5 hrr hfit hvl hplc hbody eur hvn hu4 l9
        go_upto_region 37 with fail
        refine wp_world (fun V' => V7.Extends V' ∧ blk V' V7.heap.size = some (GNode.enc ⟨(ur : Int), 0, ⟨none, 0, 0⟩, ⟨none, 0, 0⟩⟩) ∧ free V' V7.heap.size = true) ⟨extends_alloc (ext_Ext (Ext.refl _)) _, by rw [blk_alloc, if_pos rfl]; try exact congrArg some (GNode.all_set _ _), by rw [free_alloc, if_pos rfl]⟩ ?_
        rintro V7b ⟨hx7, hbt, hft⟩
        obtain ⟨bt, ebt⟩ : ∃ bt, bt = V7.heap.size := ⟨_, rfl⟩
        rw [← ebt] at hbt hft ⊢
        have hFn := fr_new (O := O7) hx7 (.a 9 5)
        have HQ6 : Hid (vQ W V7b bn la5 ln5 lc5 need KD Dn bc bt (ur : Int) 0 Gs L u.vals K0 (4 * ln + 32 * i5) 0) := by
          refine ⟨_, na, nn, nc, ga, gn, gc, K0, _, [], HL7.out.fr hFn (lab9 (by decide)) (lab9 (by decide)) (fun e => by cases e), HC7.out.fr hFn (lab9 (by decide)) (lab9 (by decide)) (lab9 (by decide)) (fun e => by cases e), ⟨hbt, hft, by rw [ebt]; exact lab_ge (Nat.le_refl _), ⟨ownsNil _ _ _ _, fun k hk => by cases hk⟩, ⟨ownsNil _ _ _ _, fun k hk => by cases hk⟩⟩, rfl, rfl, rfl, HKB5.out, rfl⟩
        clear hx7 hbt hft ebt hFn HL7 HC7 hbL7 hbn7 hNi hNil
        go_upto_region 38 with fail
        refine wp_loop_f 308 (yB6 W b ob bn bc bt i5 (some ⟨bL, 0, none⟩) tn tc la5 ln5 lc5 vn (fun V k => vQ W V bn la5 ln5 lc5 need KD Dn bc bt (ur : Int) 0 Gs L u.vals K0 (4 * ln + 32 * i5) k)) (fun f _ => vn - (intOf (f 25)).toNat) rfl ⟨rfl, rfl, rfl, rfl, rfl, rfl, rfl, 0, by omega, rfl, HQ6⟩ ?_
        clear HQ6
        intro G6 V8 hrel
        obtain ⟨f0, f2, f13, f18, f19, f23, f24, k, hk, f25, HP8⟩ := hrel
        have H25 := hid_of f25
        rw [zframe308, f0, f2, f13, f18, f19, f23, f24, f25]
        clear f0 f2 f13 f18 f19 f23 f24 f25
        have k0 : (0 : Int) ≤ (k : Int) := by omega
        have k2 : ((k : Int)).toNat = k := by omega
        by_cases hkn : k < vn
        rotate_left 1
        · have hkn' : ¬ (k : Int) < (vn : Int) := by omega
          obtain ⟨O8, na, nn, nc, ga, gn, gc, K, g, v, hL8, hC8, hD8, hg1, hg2, hfo, hkb, hvk⟩ := HP8.out
          have hbL8 : blk V8 bL = some CL := (hL8.ext.blk (blk_lt HT1.out)).trans HT1.out
          have hb8 : blk V8 b = some Ce := (hL8.ext.blk (blk_lt HB.out)).trans HB.out
          have hu8 : blk V8 bu = some CU := (hL8.ext.blk (blk_lt HU1.out)).trans HU1.out
          have hfo2 : (K, v) = valF K0 u.vals := by rw [hfo, List.take_of_length_le (by rw [HSRL.out]; omega)]; rfl
          have HFO2 := hid_of hfo2
          obtain ⟨body, ebody⟩ : ∃ body, body = rr.body := ⟨_, rfl⟩
          have hxn : body.length = xn := by rw [ebody]; exact HU5.out
          have HXN := hid_of hxn
          have HEB := hid_of ebody
          have hxn1 : xn ≤ 1000 := by rw [← hxn, ebody]; exact HFIT.out.bl
          have hKb : K.length ≤ 4 * ln + 32 * i5 + 32 := by omega
          have HKB7 := hid_of hKb
          have hdr : Fr (fun _ => False) O8 V8 O8 (V8.drewN 1) := (Fr.refl _ _ _).drewN 1
          have HQ7 : Hid (rQ W V8.drew bn la5 ln5 lc5 need KD Dn bc bt (ur : Int) Gs L K v p u body 0) := ⟨O8, na, nn, nc, ga, gn, gc, g, [], hL8.fr hdr (fun e => e) (fun e => e) (fun e => e), hC8.fr hdr (fun e => e) (fun e => e) (fun e => e) (fun e => e), hD8.fr hdr (fun e => e) (fun e => e) (fun e => e), hg1, hg2, rfl, Nat.le_refl _⟩
          clear hL8 hC8 hD8 hg1 hg2 hfo hkb hvk hfo2 ebody hxn hKb hdr HP8
          go_upto_region 41 with fail
          repeat go_step
          refine wp_region_held_drew (S := fun W' => blk W' b = some Ce ∧ blk W' bL = some CL ∧ blk W' bu = some CU) (by kernel_rfl) ⟨hb8, hbL8, hu8⟩ (fun hHeld => ?_)
          refine wpAnyH_take (i := 0) (oi := ⟨_, _, _, _, _, _⟩) (v := ?_) rfl (by kernel_rfl) (by kernel_rfl) (by kernel_rfl) (fun _ _ _ h => h) (Or.inl ⟨by rfl, ?_⟩) (by assumption) ?_
          rotate_left 1
          · intro W' hSw
            obtain ⟨hS1, hS2, hS3⟩ := hSw
            go_simp
            try with_reducible rfl
          try simp only [Act.put, List.setIfInBounds_toArray, List.set_cons_zero, List.set_cons_succ]
          refine wpAnyH_take (i := 1) (oi := ⟨_, _, _, _, _, _⟩) (v := ?_) rfl (by kernel_rfl) (by kernel_rfl) (by kernel_rfl) (fun _ _ _ h => h) (Or.inl ⟨by rfl, ?_⟩) (by assumption) ?_
          rotate_left 1
          · intro W' hSw
            obtain ⟨hS1, hS2, hS3⟩ := hSw
            go_simp
            try with_reducible rfl
          try simp only [Act.put, List.setIfInBounds_toArray, List.set_cons_zero, List.set_cons_succ]
          refine wpAnyH_take (i := 2) (oi := ⟨_, _, _, _, _, _⟩) (v := ?_) rfl (by kernel_rfl) (by kernel_rfl) (by kernel_rfl) (fun _ _ _ h => h) (Or.inl ⟨by rfl, ?_⟩) (by assumption) ?_
          rotate_left 1
          · intro W' hSw
            obtain ⟨hS1, hS2, hS3⟩ := hSw
            go_simp
            try with_reducible rfl
          try simp only [Act.put, List.setIfInBounds_toArray, List.set_cons_zero, List.set_cons_succ]
          refine wpAnyH_take (i := 3) (oi := ⟨_, _, _, _, _, _⟩) (v := ?_) rfl (by kernel_rfl) (by kernel_rfl) (by kernel_rfl) (fun _ _ _ h => h) (Or.inl ⟨by rfl, ?_⟩) (by assumption) ?_
          rotate_left 1
          · intro W' hSw
            obtain ⟨hS1, hS2, hS3⟩ := hSw
            go_simp
            try with_reducible rfl
          try simp only [Act.put, List.setIfInBounds_toArray, List.set_cons_zero, List.set_cons_succ]
          refine wpAnyH_take (i := 4) (oi := ⟨_, _, _, _, _, _⟩) (v := ?_) rfl (by kernel_rfl) (by kernel_rfl) (by kernel_rfl) (fun _ _ _ h => h) (Or.inl ⟨by rfl, ?_⟩) (by assumption) ?_
          rotate_left 1
          · intro W' hSw
            obtain ⟨hS1, hS2, hS3⟩ := hSw
            go_simp
            try with_reducible rfl
          try simp only [Act.put, List.setIfInBounds_toArray, List.set_cons_zero, List.set_cons_succ]
          refine wpAnyH_take (i := 5) (oi := ⟨_, _, _, _, _, _⟩) (v := ?_) rfl (by kernel_rfl) (by kernel_rfl) (by kernel_rfl) (fun _ _ _ h => h) (Or.inl ⟨by rfl, ?_⟩) (by assumption) ?_
          rotate_left 1
          · intro W' hSw
            obtain ⟨hS1, hS2, hS3⟩ := hSw
            go_simp
            try with_reducible rfl
          try simp only [Act.put, List.setIfInBounds_toArray, List.set_cons_zero, List.set_cons_succ]
          refine wpAnyH_take (i := 6) (oi := ⟨_, _, _, _, _, _⟩) (v := ?_) rfl (by kernel_rfl) (by kernel_rfl) (by kernel_rfl) (fun _ _ _ h => h) (Or.inl ⟨by rfl, ?_⟩) (by assumption) ?_
          rotate_left 1
          · intro W' hSw
            obtain ⟨hS1, hS2, hS3⟩ := hSw
            go_simp
            try with_reducible rfl
          try simp only [Act.put, List.setIfInBounds_toArray, List.set_cons_zero, List.set_cons_succ]
          refine wpAnyH_take (i := 7) (oi := ⟨_, _, _, _, _, _⟩) (v := ?_) rfl (by kernel_rfl) (by kernel_rfl) (by kernel_rfl) (fun _ _ _ h => h) (Or.inl ⟨by rfl, ?_⟩) (by assumption) ?_
          rotate_left 1
          · intro W' hSw
            obtain ⟨hS1, hS2, hS3⟩ := hSw
            go_simp
            try with_reducible rfl
          try simp only [Act.put, List.setIfInBounds_toArray, List.set_cons_zero, List.set_cons_succ]
          refine wpAnyH_take (i := 8) (oi := ⟨_, _, _, _, _, _⟩) (v := ?_) rfl (by kernel_rfl) (by kernel_rfl) (by kernel_rfl) (fun _ _ _ h => h) (Or.inl ⟨by rfl, ?_⟩) (by assumption) ?_
          rotate_left 1
          · intro W' hSw
            obtain ⟨hS1, hS2, hS3⟩ := hSw
            go_simp
            try with_reducible rfl
          try simp only [Act.put, List.setIfInBounds_toArray, List.set_cons_zero, List.set_cons_succ]
          refine wpAnyH_take (i := 9) (oi := ⟨_, _, _, _, _, _⟩) (v := ?_) rfl (by kernel_rfl) (by kernel_rfl) (by kernel_rfl) (fun _ _ _ h => h) (Or.inl ⟨by rfl, ?_⟩) (by assumption) ?_
          rotate_left 1
          · intro W' hSw
            obtain ⟨hS1, hS2, hS3⟩ := hSw
            go_simp
            try with_reducible rfl
          try simp only [Act.put, List.setIfInBounds_toArray, List.set_cons_zero, List.set_cons_succ]
          refine wpAnyH_take (i := 10) (oi := ⟨_, _, _, _, _, _⟩) (v := ?_) rfl (by kernel_rfl) (by kernel_rfl) (by kernel_rfl) (fun _ _ _ h => h) (Or.inl ⟨by rfl, ?_⟩) (by assumption) ?_
          rotate_left 1
          · intro W' hSw
            obtain ⟨hS1, hS2, hS3⟩ := hSw
            go_simp
            try with_reducible rfl
          try simp only [Act.put, List.setIfInBounds_toArray, List.set_cons_zero, List.set_cons_succ]
          refine wpAnyH_take (i := 11) (oi := ⟨_, _, _, _, _, _⟩) (v := ?_) rfl (by kernel_rfl) (by kernel_rfl) (by kernel_rfl) (fun _ _ _ h => h) (Or.inl ⟨by rfl, ?_⟩) (by assumption) ?_
          rotate_left 1
          · intro W' hSw
            obtain ⟨hS1, hS2, hS3⟩ := hSw
            go_simp
            try with_reducible rfl
          try simp only [Act.put, List.setIfInBounds_toArray, List.set_cons_zero, List.set_cons_succ]
          refine wpAnyH_take (i := 12) (oi := ⟨_, _, _, _, _, _⟩) (v := ?_) rfl (by kernel_rfl) (by kernel_rfl) (by kernel_rfl) (fun _ _ _ h => h) (Or.inl ⟨by rfl, ?_⟩) (by assumption) ?_
          rotate_left 1
          · intro W' hSw
            obtain ⟨hS1, hS2, hS3⟩ := hSw
            go_simp
            try with_reducible rfl
          try simp only [Act.put, List.setIfInBounds_toArray, List.set_cons_zero, List.set_cons_succ]
          refine wpAnyH_done (by kernel_rfl) ?_ _
          clear hHeld hb8 hbL8 hu8
          go_upto_region 43 with fail
          refine wp_loop_f 308 (yB7 W b ob bn bc bt i5 (some ⟨bL, 0, none⟩) tn tc la5 ln5 lc5 xa xn xc (fun V k => rQ W V bn la5 ln5 lc5 need KD Dn bc bt (ur : Int) Gs L K v p u body k)) (fun f _ => xn - (intOf (f 27)).toNat) rfl ⟨rfl, rfl, rfl, rfl, rfl, rfl, rfl, rfl, 0, by omega, rfl, HQ7⟩ ?_
          clear HQ7
          intro G7 V9 hrel
          obtain ⟨f0, f2, f13, f18, f19, f23, f24, f26, k7, hk7, f27, HP9⟩ := hrel
          have H27 := hid_of f27
          rw [zframe308, f0, f2, f13, f18, f19, f23, f24, f26, f27]
          clear f0 f2 f13 f18 f19 f23 f24 f26 f27
          have p0 : (0 : Int) ≤ (k7 : Int) := by omega
          have p2 : ((k7 : Int)).toNat = k7 := by omega
          obtain ⟨O9, na, nn, nc, ga, gn, gc, g, rf, hL9, hC9, hD9, hg1, hg2, hrf, hrl7⟩ := HP9.out
          by_cases hkx : k7 < xn
          rotate_left 1
          · have hkx' : ¬ (k7 : Int) < (xn : Int) := by omega
            have hbL9 : blk V9 bL = some CL := (hL9.ext.blk (blk_lt HT1.out)).trans HT1.out
            have hlk9 := HLK5.out
            have hdk9 := HDK5.out
            obtain ⟨CE, eCE⟩ : ∃ CE, CE = [Value.slice na nn nc, .slice ga gn gc] := ⟨_, rfl⟩
            have HCE := hid_of eCE
            have ce1 : nth CE 1 = some (.slice ga gn gc) := by rw [eCE]; rfl
            have cel : CE.length = 2 := by rw [eCE]; rfl
            have cel1 : 1 < CE.length := by omega
            have cel2 : 1 + 1 ≤ CE.length := by omega
            have hbc8 : blk V9 bc = some CE := by rw [eCE]; exact hC9.nm.cell
            obtain ⟨GE, eGE⟩ : ∃ GE, GE = g.enc := ⟨_, rfl⟩
            have gel : GE.length = 4 := by rw [eGE]; exact GNode.length_enc _
            have gel0 : 0 + 4 ≤ GE.length := by omega
            have gok : okCells 4 GE = true := by rw [eGE]; exact GNode.ok_enc _
            have gsg : seg GE 0 4 = GE := seg_all _ _ gel
            have hbt8 : blk V9 bt = some GE := by rw [eGE]; exact hD9.cell
            have hgb : ∀ w, (bsliceOp 177 1 #[(0, .agg GE.toArray)]).run Tryz.prog w = .ok (.value (.slice (some ⟨w.heap.size, 0, none⟩) 1 1)) (w.alloc (.cells GE.toArray 182)) := fun w => by rw [eGE]; exact bslice217 w g
            obtain ⟨ga9, gc9, V9q, hrun, hbc9, hfc9, hC9q, hF9q⟩ := hC9.addNode hD9 (by have h9 := hC9.ns.1; omega)
            rw [← eGE] at hrun
            rw [← eCE] at hbc9
            have esp9 : splice CE 1 [.slice ga9 (gn + 1) gc9] = [.slice na nn nc, .slice ga9 (gn + 1) gc9] := by rw [eCE]; rfl
            have hng : ∀ j, j ≠ 2 → j ≠ 4 → ¬ isG (.a 9 j) := fun j h2 h4 => by rintro (e | e); exact h2 (Lab.a.inj e).2; exact h4 (Lab.a.inj e).2
            have hngn : ¬ isG .no := by rintro (e | e) <;> cases e
            have hLA := hL9.d67.fr hF9q (hng 0 (by decide) (by decide)) (hng 1 (by decide) (by decide)) hngn
            rw [← esp9] at hLA hC9q
            obtain ⟨VA, eVA⟩ : ∃ VA, VA = put V9q bc (splice CE 1 [.slice ga9 (gn + 1) gc9]) := ⟨_, rfl⟩
            rw [← eVA] at hLA hC9q
            obtain ⟨laB, lcB, VB, hrunB, hLB, hFB⟩ := hLA.app ⟨(u.pred : Int), ⟨kra, krn, krc⟩, (u.rule : Int), ⟨va, vn, vc⟩⟩ u (HT7.out.sub hLA.base) HUW.out (by have := hLA.n; omega) #[.int .i64 (u.pred : Int), .slice kra krn krc, .int .i64 (u.rule : Int), .slice va vn vc] rfl
            have hCB := hC9q.fr hFB (lab9 (by decide)) (lab9 (by decide)) (lab9 (by decide)) (fun e => by cases e)
            have HQA : Hid (dQ W VB bn laB (ln5 + 1) lcB need bc p T X0 ln (i5 + 1)) := by
              refine ⟨_, _, Dn ++ [u], na, nn, nc, ga9, gn + 1, gc9, K, Gs ++ [g], _, hLB, hCB, ?_, ?_, ?_, ?_⟩
              · rw [HRS.out, if_pos trivial]
                unfold ruS
                dsimp only
                rw [← HFO2.out, HBODY.out, ← HEB.out, hg1, hg2, HUR.out, hrf, List.take_of_length_le (by rw [HXN.out]; omega)]
              · have := HKB7.out; omega
              · rw [List.length_append, List.length_singleton]; omega
              · rw [List.length_append, List.length_singleton]; omega
            have hsg : seg CL (i5 * 4) 4 = [.int .i64 (u.pred : Int), .slice kra krn krc, .int .i64 (u.rule : Int), .slice va vn vc] := HT3.out
            have hbLA : blk VA bL = some CL := (hLA.ext.blk (blk_lt HT1.out)).trans HT1.out
            have l9 : (i5 + 1) * 4 ≤ tn * 4 := Nat.mul_le_mul_right _ hit
            have c4' : i5 * 4 + 4 ≤ CL.length := by omega
            have hpe : put V9q bc (splice CE 1 [.slice ga9 (gn + 1) gc9]) = VA := eVA.symm
            clear hL9 hC9 hD9 hg1 hg2 hrf hrl7 HP9 hC9q hF9q hLA hLB hFB hCB esp9 eGE eCE eVA hng hngn l9
            go_upto_region 48 with (at_builtin; refine wpList_append_run rfl _ _ 177 rfl _ _ _ _ rfl rfl hrun ?_)
            try rw [hpe]
            clear hpe hrun hbc8 hbt8 hbc9 hfc9 hbL9
            go_wp2_with (at_builtin; refine wpList_append_run rfl _ _ 53 rfl _ _ _ _ rfl rfl hrunB ?_)
            refine ⟨rfl, rfl, ⟨rfl, rfl, rfl, rfl, i5 + 1, laB, ln5 + 1, lcB, by omega, ?_, rfl, HQA⟩, ?_⟩
            · show Value.int .i64 _ = _
              go_num
            · show tn - (intOf (Value.int .i64 _)).toNat < tn - (intOf (G5 23)).toNat
              rw [H23.out]
              simp [intOf]; omega
          have hkx' : (k7 : Int) < (xn : Int) := by omega
          obtain ⟨z, hz⟩ : ∃ z, body[k7]? = some z := ⟨_, List.getElem?_eq_getElem (by rw [HXN.out]; exact hkx)⟩
          have hzb : z ∈ rr.body := by rw [← HEB.out]; exact List.mem_of_getElem? hz
          obtain ⟨bl, CB, at9, rfl, l1, l2, l3, l4, l5, l6⟩ := lit_at HU4.out (by rw [← HEB.out]; exact hz)
          have hbl9 : blk V9 bl = some CB := (hL9.ext.blk (blk_lt l1)).trans l1
          have hbL9 : blk V9 bL = some CL := (hL9.ext.blk (blk_lt HT1.out)).trans HT1.out
          have cb0 : k7 * 3 < CB.length := by omega
          have cb1 : k7 * 3 + 1 < CB.length := by omega
          have cb2 : k7 * 3 + 1 + 2 ≤ CB.length := by omega
          obtain ⟨AE, eAE⟩ : ∃ AE, AE = at9.enc := ⟨_, rfl⟩
          have ael : AE.length = 2 := by rw [eAE]; exact Atom.length_enc _
          rw [← eAE] at l5
          have HX9 := hid_of hL9.ext
          have hins := instance_any V9.drew b ob p (HPO.out.sub (Sub.ext (extends_drewN HX9.out 1))) at9 z.atom (l6.sub (Sub.ext (extends_drewN HX9.out 1))) (Nat.le_trans (HFIT.out.ar z.atom (List.mem_cons_of_mem _ (List.mem_map.2 ⟨z, hzb, rfl⟩))) (by decide)) va vn vc u.vals (HT7.out.2.2.2.sub (Sub.ext (extends_drewN HX9.out 1))) (HFIT.out.fit HVL.out (List.mem_cons_of_mem _ (List.mem_map.2 ⟨z, hzb, rfl⟩)))
          rw [← eAE] at hins
          unfold InPost at hins
          obtain ⟨x, ex⟩ : ∃ x, x = instF p.pool u.vals z.atom := ⟨_, rfl⟩
          rw [← ex] at hins
          have HXE := hid_of ex
          obtain ⟨zp, ezp⟩ : ∃ zp, zp = z.atom.pred := ⟨_, rfl⟩
          rw [← ezp] at l4
          have HZP := hid_of ezp
          obtain ⟨zn, ezn⟩ : ∃ zn, zn = z.neg := ⟨_, rfl⟩
          rw [← ezn] at l3
          have HZN := hid_of ezn
          have HZ := hid_of hz
          obtain ⟨xm, exm⟩ : ∃ xm, xm = x.length := ⟨_, rfl⟩
          rw [← exm] at hins
          obtain ⟨pl, epl⟩ : ∃ pl, pl = plcF Dn zp x := ⟨_, rfl⟩
          have HPL := hid_of epl
          have HOB : Hid (O9 bl = .no) := hL9.lo bl (blk_lt l1)
          have HOL : Hid (O9 bL = .no) := hL9.lo bL (blk_lt HT1.out)
          have hdr : Fr (fun _ => False) O9 V9 O9 (V9.drewN 1) := (Fr.refl _ _ _).drewN 1
          have HLd : Hid (LvS W O9 V9.drew bn la5 ln5 lc5 need KD Dn) := hL9.fr hdr (fun e => e) (fun e => e) (fun e => e)
          have HCd : Hid (CtS W.heap.size O9 V9.drew bc na nn nc ga gn gc K Gs L) := hC9.fr hdr (fun e => e) (fun e => e) (fun e => e) (fun e => e)
          have HDd : Hid (NdS W.heap.size O9 V9.drew bt g v rf) := hD9.fr hdr (fun e => e) (fun e => e) (fun e => e)
          have HG1 := hid_of hg1
          have HG2 := hid_of hg2
          have HRF := hid_of hrf
          have HRL7 := hid_of hrl7
          cases zn with
          | true =>
            have HQ9 : Hid (rQ W V9 bn la5 ln5 lc5 need KD Dn bc bt (ur : Int) Gs L K v p u body (k7 + 1)) := by
              refine ⟨O9, na, nn, nc, ga, gn, gc, g, rf, hL9, hC9, hD9, hg1, hg2, ?_, by omega⟩
              rw [take_at hz, List.foldl_append, ← hrf]
              show rf = rfS p u Dn rf z
              unfold rfS
              rw [if_pos HZN.out.symm]
            clear hL9 hC9 hD9 hg1 hg2 hrf hrl7 hz hzb l1 l2 l6 eAE ex ezp ezn exm epl hins HP9 hdr
            go_wp2_with fail
            refine ⟨rfl, rfl, ⟨rfl, rfl, rfl, rfl, rfl, rfl, rfl, rfl, k7 + 1, by omega, ?_, HQ9⟩, ?_⟩
            · show Value.int .i64 _ = _
              go_num
            · show xn - (intOf (Value.int .i64 _)).toNat < xn - (intOf (G7 27)).toNat
              rw [H27.out]
              simp [intOf]; omega
          | false =>
            obtain ⟨GE, eGE⟩ : ∃ GE, GE = g.enc := ⟨_, rfl⟩
            have HGE := hid_of eGE
            obtain ⟨gva, gvn, gvc, egv⟩ : ∃ a n c, g.refs = ⟨a, n, c⟩ := ⟨g.refs.a, g.refs.len, g.refs.cap, rfl⟩
            have ge3 : nth GE 3 = some (.slice gva gvn gvc) := by rw [eGE]; show some (Sl.val g.refs) = _; rw [egv]; rfl
            have gel : GE.length = 4 := by rw [eGE]; exact GNode.length_enc _
            have gel2 : 3 < GE.length := by omega
            have gel3 : 3 + 1 ≤ GE.length := by omega
            have hbtd : blk V9.drew bt = some GE := by rw [eGE]; exact hD9.cell
            have hftd : free V9.drew bt = true := hD9.fre
            have hbt9 : blk V9 bt = some GE := by rw [eGE]; exact hD9.cell
            have HEGV := hid_of egv
            have hln5 : Dn.length = ln5 := hL9.n
            have hdk9 := HDK5.out
            have hS0 : blk V9 bl = some CB ∧ blk V9 bL = some CL := ⟨hbl9, hbL9⟩
            have hSd : blk V9.drew bl = some CB ∧ blk V9.drew bL = some CL := ⟨hbl9, hbL9⟩
            clear hL9 hC9 hD9 hg1 hg2 hrf hrl7 hz hzb l1 l2 l6 eAE ex ezp ezn exm epl HP9 hdr eGE egv
            go_upto_region 46 with fail
            repeat go_step
            refine wp_region_held_drew (S := fun W' => blk W' bl = some CB ∧ blk W' bL = some CL) (by kernel_rfl) hS0 (fun hHeld => ?_)
            refine wpAnyH_take (i := 0) (oi := ⟨_, _, _, _, _, _⟩) (v := ?_) rfl (by kernel_rfl) (by kernel_rfl) (by kernel_rfl) (fun _ _ _ h => h) (Or.inl ⟨by rfl, ?_⟩) (by assumption) ?_
            rotate_left 1
            · intro W' hSw
              obtain ⟨hS1, hS2⟩ := hSw
              go_simp
              try with_reducible rfl
            try simp only [Act.put, List.setIfInBounds_toArray, List.set_cons_zero, List.set_cons_succ]
            refine wpAnyH_take (i := 2) (oi := ⟨_, _, _, _, _, _⟩) (v := ?_) rfl (by kernel_rfl) (by kernel_rfl) (by kernel_rfl) (fun _ _ _ h => h) (Or.inl ⟨by rfl, ?_⟩) (by assumption) ?_
            rotate_left 1
            · intro W' hSw
              obtain ⟨hS1, hS2⟩ := hSw
              go_simp
              try with_reducible rfl
            try simp only [Act.put, List.setIfInBounds_toArray, List.set_cons_zero, List.set_cons_succ]
            refine wpAnyH_take (i := 3) (oi := ⟨_, _, _, _, _, _⟩) (v := ?_) rfl (by kernel_rfl) (by kernel_rfl) (by kernel_rfl) (fun _ _ _ h => h) (Or.inl ⟨by rfl, ?_⟩) (by assumption) ?_
            rotate_left 1
            · intro W' hSw
              obtain ⟨hS1, hS2⟩ := hSw
              go_simp
              try with_reducible rfl
            try simp only [Act.put, List.setIfInBounds_toArray, List.set_cons_zero, List.set_cons_succ]
            refine wpAnyH_take (i := 4) (oi := ⟨_, _, _, _, _, _⟩) (v := ?_) rfl (by kernel_rfl) (by kernel_rfl) (by kernel_rfl) (fun _ _ _ h => h) (Or.inl ⟨by rfl, ?_⟩) (by assumption) ?_
            rotate_left 1
            · intro W' hSw
              obtain ⟨hS1, hS2⟩ := hSw
              go_simp
              try with_reducible rfl
            try simp only [Act.put, List.setIfInBounds_toArray, List.set_cons_zero, List.set_cons_succ]
            refine wpAnyH_take (i := 5) (oi := ⟨_, _, _, _, _, _⟩) (v := ?_) rfl (by kernel_rfl) (by kernel_rfl) (by kernel_rfl) (fun _ _ _ h => h) (Or.inl ⟨by rfl, ?_⟩) (by assumption) ?_
            rotate_left 1
            · intro W' hSw
              obtain ⟨hS1, hS2⟩ := hSw
              go_simp
              try with_reducible rfl
            try simp only [Act.put, List.setIfInBounds_toArray, List.set_cons_zero, List.set_cons_succ]
            refine wpAnyH_take (i := 6) (oi := ⟨_, _, _, _, _, _⟩) (v := ?_) rfl (by kernel_rfl) (by kernel_rfl) (by kernel_rfl) (fun _ _ _ h => h) (Or.inl ⟨by rfl, ?_⟩) (by assumption) ?_
            rotate_left 1
            · intro W' hSw
              obtain ⟨hS1, hS2⟩ := hSw
              go_simp
              try with_reducible rfl
            try simp only [Act.put, List.setIfInBounds_toArray, List.set_cons_zero, List.set_cons_succ]
            refine wpAnyH_take (i := 7) (oi := ⟨_, _, _, _, _, _⟩) (v := ?_) rfl (by kernel_rfl) (by kernel_rfl) (by kernel_rfl) (fun _ _ _ h => h) (Or.inl ⟨by rfl, ?_⟩) (by assumption) ?_
            rotate_left 1
            · intro W' hSw
              obtain ⟨hS1, hS2⟩ := hSw
              go_simp
              try with_reducible rfl
            try simp only [Act.put, List.setIfInBounds_toArray, List.set_cons_zero, List.set_cons_succ]
            refine wpAnyH_take (i := 8) (oi := ⟨_, _, _, _, _, _⟩) (v := ?_) rfl (by kernel_rfl) (by kernel_rfl) (by kernel_rfl) (fun _ _ _ h => h) (Or.inl ⟨by rfl, ?_⟩) (by assumption) ?_
            rotate_left 1
            · intro W' hSw
              obtain ⟨hS1, hS2⟩ := hSw
              go_simp
              try with_reducible rfl
            try simp only [Act.put, List.setIfInBounds_toArray, List.set_cons_zero, List.set_cons_succ]
            refine wpAnyH_take (i := 9) (oi := ⟨_, _, _, _, _, _⟩) (v := ?_) rfl (by kernel_rfl) (by kernel_rfl) (by kernel_rfl) (fun _ _ _ h => h) (Or.inl ⟨by rfl, ?_⟩) (by assumption) ?_
            rotate_left 1
            · intro W' hSw
              obtain ⟨hS1, hS2⟩ := hSw
              go_simp
              try with_reducible rfl
            try simp only [Act.put, List.setIfInBounds_toArray, List.set_cons_zero, List.set_cons_succ]
            refine wpAnyH_take (i := 10) (oi := ⟨_, _, _, _, _, _⟩) (v := ?_) rfl (by kernel_rfl) (by kernel_rfl) (by kernel_rfl) (fun _ _ _ h => h) (Or.inl ⟨by rfl, ?_⟩) (by assumption) ?_
            rotate_left 1
            · intro W' hSw
              obtain ⟨hS1, hS2⟩ := hSw
              go_simp
              try with_reducible rfl
            try simp only [Act.put, List.setIfInBounds_toArray, List.set_cons_zero, List.set_cons_succ]
            refine wpAnyH_take (i := 11) (oi := ⟨_, _, _, _, _, _⟩) (v := ?_) rfl (by kernel_rfl) (by kernel_rfl) (by kernel_rfl) (fun _ _ _ h => h) (Or.inl ⟨by rfl, ?_⟩) (by assumption) ?_
            rotate_left 1
            · intro W' hSw
              obtain ⟨hS1, hS2⟩ := hSw
              go_simp
              try with_reducible rfl
            try simp only [Act.put, List.setIfInBounds_toArray, List.set_cons_zero, List.set_cons_succ]
            refine wpAnyH_take (i := 12) (oi := ⟨_, _, _, _, _, _⟩) (v := ?_) rfl (by kernel_rfl) (by kernel_rfl) (by kernel_rfl) (fun _ _ _ h => h) (Or.inl ⟨by rfl, ?_⟩) (by assumption) ?_
            rotate_left 1
            · intro W' hSw
              obtain ⟨hS1, hS2⟩ := hSw
              go_simp
              try with_reducible rfl
            try simp only [Act.put, List.setIfInBounds_toArray, List.set_cons_zero, List.set_cons_succ]
            refine wpAnyH_take (i := 13) (oi := ⟨_, _, _, _, _, _⟩) (v := ?_) rfl (by kernel_rfl) (by kernel_rfl) (by kernel_rfl) (fun _ _ _ h => h) (Or.inl ⟨by rfl, ?_⟩) (by assumption) ?_
            rotate_left 1
            · intro W' hSw
              obtain ⟨hS1, hS2⟩ := hSw
              go_simp
              try with_reducible rfl
            try simp only [Act.put, List.setIfInBounds_toArray, List.set_cons_zero, List.set_cons_succ]
            refine wpAnyH_take (i := 14) (oi := ⟨_, _, _, _, _, _⟩) (v := ?_) rfl (by kernel_rfl) (by kernel_rfl) (by kernel_rfl) (fun _ _ _ h => h) (Or.inl ⟨by rfl, ?_⟩) (by assumption) ?_
            rotate_left 1
            · intro W' hSw
              obtain ⟨hS1, hS2⟩ := hSw
              go_simp
              try with_reducible rfl
            try simp only [Act.put, List.setIfInBounds_toArray, List.set_cons_zero, List.set_cons_succ]
            refine wpAnyH_take (i := 15) (oi := ⟨_, _, _, _, _, _⟩) (v := ?_) rfl (by kernel_rfl) (by kernel_rfl) (by kernel_rfl) (fun _ _ _ h => h) (Or.inl ⟨by rfl, ?_⟩) (by assumption) ?_
            rotate_left 1
            · intro W' hSw
              obtain ⟨hS1, hS2⟩ := hSw
              go_simp
              try with_reducible rfl
            try simp only [Act.put, List.setIfInBounds_toArray, List.set_cons_zero, List.set_cons_succ]
            refine wpAnyH_take (i := 16) (oi := ⟨_, _, _, _, _, _⟩) (v := ?_) rfl (by kernel_rfl) (by kernel_rfl) (by kernel_rfl) (fun _ _ _ h => h) (Or.inl ⟨by rfl, ?_⟩) (by assumption) ?_
            rotate_left 1
            · intro W' hSw
              obtain ⟨hS1, hS2⟩ := hSw
              go_simp
              try with_reducible rfl
            try simp only [Act.put, List.setIfInBounds_toArray, List.set_cons_zero, List.set_cons_succ]
            refine wpAnyH_take (i := 17) (oi := ⟨_, _, _, _, _, _⟩) (v := ?_) rfl (by kernel_rfl) (by kernel_rfl) (by kernel_rfl) (fun _ _ _ h => h) (Or.inl ⟨by rfl, ?_⟩) (by assumption) ?_
            rotate_left 1
            · intro W' hSw
              obtain ⟨hS1, hS2⟩ := hSw
              go_simp
              try with_reducible rfl
            try simp only [Act.put, List.setIfInBounds_toArray, List.set_cons_zero, List.set_cons_succ]
            refine wpAnyH_take (i := 18) (oi := ⟨_, _, _, _, _, _⟩) (v := ?_) rfl (by kernel_rfl) (by kernel_rfl) (by kernel_rfl) (fun _ _ _ h => h) (Or.inl ⟨by rfl, ?_⟩) (by assumption) ?_
            rotate_left 1
            · intro W' hSw
              obtain ⟨hS1, hS2⟩ := hSw
              go_simp
              try with_reducible rfl
            try simp only [Act.put, List.setIfInBounds_toArray, List.set_cons_zero, List.set_cons_succ]
            refine wpAnyH_take (i := 19) (oi := ⟨_, _, _, _, _, _⟩) (v := ?_) rfl (by kernel_rfl) (by kernel_rfl) (by kernel_rfl) (fun _ _ _ h => h) (Or.inl ⟨by rfl, ?_⟩) (by assumption) ?_
            rotate_left 1
            · intro W' hSw
              obtain ⟨hS1, hS2⟩ := hSw
              go_simp
              try with_reducible rfl
            try simp only [Act.put, List.setIfInBounds_toArray, List.set_cons_zero, List.set_cons_succ]
            refine wpAnyH_ready (rs := [1, 20]) (by kernel_rfl) (by simp) ?_
            refine AllReadyH.cons (o := ⟨_, _, _, _, _, _⟩) rfl (fun K' hK => ?_) (AllReadyH.cons (o := ⟨_, _, _, _, _, _⟩) rfl (fun K' hK => ?_) AllReadyH.nil)
            · go_simp
              refine hK.out _ _ hSd (fun hHeld => ?_)
              clear hK K'
              try simp only [Act.put, List.setIfInBounds_toArray, List.set_cons_zero, List.set_cons_succ]
              refine wpAnyH_ready (rs := [20]) (by kernel_rfl) (by simp) ?_
              refine AllReadyH.cons (o := ⟨_, _, _, _, _, _⟩) rfl (fun K' hK => ?_) AllReadyH.nil
              go_simp
              refine hins.mono ?_
              rintro e V10 ⟨ia, ic, rfl, hO10⟩
              dsimp only
              have hS10 : blk V10 bl = some CB ∧ blk V10 bL = some CL := ⟨(hO10.2.1.blk (blk_lt hSd.1)).trans hSd.1, (hO10.2.1.blk (blk_lt hSd.2)).trans hSd.2⟩
              have hbt10 : blk V10 bt = some GE := (hO10.2.1.blk (blk_lt hbtd)).trans hbtd
              have hLv10 := HLd.out.grow hO10.2.1
              have hpl := place_any V10 la5 ln5 lc5 (by omega) Dn hLv10.steps (fun s hs => Nat.le_trans (hLv10.sh s hs) (by decide)) zp ia xm ic x (hO10.rw el78)
              rw [← HPL.out] at hpl
              have HX10 := hid_of hO10.2.1
              clear hLv10 hO10
              refine hK.out _ _ hS10 (fun hHeld => ?_)
              clear hK K'
              try simp only [Act.put, List.setIfInBounds_toArray, List.set_cons_zero, List.set_cons_succ]
              refine wpAnyH_ready (rs := [21]) (by kernel_rfl) (by simp) ?_
              refine AllReadyH.cons (o := ⟨_, _, _, _, _, _⟩) rfl (fun K' hK => ?_) AllReadyH.nil
              go_simp
              refine hpl.mono ?_
              rintro e V11 ⟨rfl, k11, e11⟩
              dsimp only
              have hx11 : V9.drew.Extends V11 := by rw [e11]; exact extends_drewN HX10.out k11
              have hS11 : blk V11 bl = some CB ∧ blk V11 bL = some CL := by rw [e11]; exact ⟨by rw [blk_drewN]; exact hS10.1, by rw [blk_drewN]; exact hS10.2⟩
              have hbt11 : blk V11 bt = some GE := by rw [e11, blk_drewN]; exact hbt10
              have hft11 : free V11 bt = true := (free_of_heap (hx11.block bt (blk_lt hbtd))).trans hftd
              obtain ⟨va7, vc7, V12, hrun0, hbt12, hft12, hQ12, hF12⟩ := rQ_step HLd.out HCd.out HDd.out HG2.out HZ.out HZN.out.symm HRF.out HRL7.out (by omega) hx11
              have hrun := hrun0
              rw [HEGV.out, ← HZP.out, ← HXE.out, ← HPL.out] at hrun
              have hS12 : ∀ A, blk (V11.alloc (.cells A 3)) bl = some CB ∧ blk (V11.alloc (.cells A 3)) bL = some CL := fun A => by
                have hx9 : V11.Extends (V11.alloc (.cells A 3)) := extends_alloc (ext_Ext (Ext.refl _)) _
                exact ⟨(hx9.blk (blk_lt hS11.1)).trans hS11.1, (hx9.blk (blk_lt hS11.2)).trans hS11.2⟩
              have hbt11a : ∀ A, blk (V11.alloc (.cells A 3)) bt = some GE := fun A => by
                have hx9 : V11.Extends (V11.alloc (.cells A 3)) := extends_alloc (ext_Ext (Ext.refl _)) _
                exact (hx9.blk (blk_lt hbt11)).trans hbt11
              have hS13 : blk V12 bl = some CB ∧ blk V12 bL = some CL := ⟨hF12.blk hS11.1 (by rw [lab_lt (blk_lt hSd.1), HOB.out]; exact fun e => by cases e), hF12.blk hS11.2 (by rw [lab_lt (blk_lt hSd.2), HOL.out]; exact fun e => by cases e)⟩
              rw [← HGE.out] at hbt12 hQ12
              have hn1 : ¬ bl = bt := fun e => by have h9 := HOB.out; rw [e, HDd.out.own] at h9; cases h9
              have hn2 : ¬ bL = bt := fun e => by have h9 := HOL.out; rw [e, HDd.out.own] at h9; cases h9
              have hS14 : blk (put V12 bt (splice GE 3 [.slice va7 (gvn + 1) vc7])) bl = some CB ∧ blk (put V12 bt (splice GE 3 [.slice va7 (gvn + 1) vc7])) bL = some CL := ⟨by rw [blk_put, if_neg hn1]; exact hS13.1, by rw [blk_put, if_neg hn2]; exact hS13.2⟩
              have HQ12 := hid_of hQ12
              rw [HEGV.out] at HQ12
              clear hQ12 hF12 e11
              refine hK.out _ _ hS11 (fun hHeld => ?_)
              clear hK K'
              try simp only [Act.put, List.setIfInBounds_toArray, List.set_cons_zero, List.set_cons_succ]
              refine wpAnyH_ready (rs := [22]) (by kernel_rfl) (by simp) ?_
              refine AllReadyH.cons (o := ⟨_, _, _, _, _, _⟩) rfl (fun K' hK => ?_) AllReadyH.nil
              go_simp
              refine hK.out _ _ (hS12 _) (fun hHeld => ?_)
              clear hK K'
              try simp only [Act.put, List.setIfInBounds_toArray, List.set_cons_zero, List.set_cons_succ]
              refine wpAnyH_ready (rs := [23]) (by kernel_rfl) (by simp) ?_
              refine AllReadyH.cons (o := ⟨_, _, _, _, _, _⟩) rfl (fun K' hK => ?_) AllReadyH.nil
              refine wp_append_run _ _ 180 rfl _ _ _ _ rfl rfl hrun ?_
              refine hK.out _ _ hS13 (fun hHeld => ?_)
              clear hK K'
              try simp only [Act.put, List.setIfInBounds_toArray, List.set_cons_zero, List.set_cons_succ]
              refine wpAnyH_take (i := 24) (oi := ⟨_, _, _, _, _, _⟩) (v := ?_) rfl (by kernel_rfl) (by kernel_rfl) (by kernel_rfl) (fun _ _ _ h => h) (Or.inl ⟨by rfl, ?_⟩) (by assumption) ?_
              rotate_left 1
              · intro W' hSw
                obtain ⟨hS1, hS2⟩ := hSw
                go_simp
                try with_reducible rfl
              try simp only [Act.put, List.setIfInBounds_toArray, List.set_cons_zero, List.set_cons_succ]
              refine wpAnyH_ready (rs := [25]) (by kernel_rfl) (by simp) ?_
              refine AllReadyH.cons (o := ⟨_, _, _, _, _, _⟩) rfl (fun K' hK => ?_) AllReadyH.nil
              go_simp
              refine hK.out _ _ hS14 (fun hHeld => ?_)
              clear hK K'
              try simp only [Act.put, List.setIfInBounds_toArray, List.set_cons_zero, List.set_cons_succ]
              refine wpAnyH_done (by kernel_rfl) ?_ _
              rw [HG1.out] at HQ12
              clear hHeld hS10 hS11 hS12 hS13 hS14 hrun hrun0
              go_wp2_with fail
              refine ⟨rfl, rfl, ⟨rfl, rfl, rfl, rfl, rfl, rfl, rfl, rfl, k7 + 1, by omega, ?_, HQ12⟩, ?_⟩
              · show Value.int .i64 _ = _
                go_num
              · show xn - (intOf (Value.int .i64 _)).toNat < xn - (intOf (G7 27)).toNat
                rw [H27.out]
                simp [intOf]; omega
            · go_simp
              refine hins.mono ?_
              rintro e V10 ⟨ia, ic, rfl, hO10⟩
              dsimp only
              have hS10 : blk V10 bl = some CB ∧ blk V10 bL = some CL := ⟨(hO10.2.1.blk (blk_lt hSd.1)).trans hSd.1, (hO10.2.1.blk (blk_lt hSd.2)).trans hSd.2⟩
              have hbt10 : blk V10 bt = some GE := (hO10.2.1.blk (blk_lt hbtd)).trans hbtd
              have hLv10 := HLd.out.grow hO10.2.1
              have hpl := place_any V10 la5 ln5 lc5 (by omega) Dn hLv10.steps (fun s hs => Nat.le_trans (hLv10.sh s hs) (by decide)) zp ia xm ic x (hO10.rw el78)
              rw [← HPL.out] at hpl
              have HX10 := hid_of hO10.2.1
              clear hLv10 hO10
              refine hK.out _ _ hS10 (fun hHeld => ?_)
              clear hK K'
              try simp only [Act.put, List.setIfInBounds_toArray, List.set_cons_zero, List.set_cons_succ]
              refine wpAnyH_ready (rs := [1, 21]) (by kernel_rfl) (by simp) ?_
              refine AllReadyH.cons (o := ⟨_, _, _, _, _, _⟩) rfl (fun K' hK => ?_) (AllReadyH.cons (o := ⟨_, _, _, _, _, _⟩) rfl (fun K' hK => ?_) AllReadyH.nil)
              · go_simp
                refine hK.out _ _ hS10 (fun hHeld => ?_)
                clear hK K'
                try simp only [Act.put, List.setIfInBounds_toArray, List.set_cons_zero, List.set_cons_succ]
                refine wpAnyH_ready (rs := [21]) (by kernel_rfl) (by simp) ?_
                refine AllReadyH.cons (o := ⟨_, _, _, _, _, _⟩) rfl (fun K' hK => ?_) AllReadyH.nil
                go_simp
                refine hpl.mono ?_
                rintro e V11 ⟨rfl, k11, e11⟩
                dsimp only
                have hx11 : V9.drew.Extends V11 := by rw [e11]; exact extends_drewN HX10.out k11
                have hS11 : blk V11 bl = some CB ∧ blk V11 bL = some CL := by rw [e11]; exact ⟨by rw [blk_drewN]; exact hS10.1, by rw [blk_drewN]; exact hS10.2⟩
                have hbt11 : blk V11 bt = some GE := by rw [e11, blk_drewN]; exact hbt10
                have hft11 : free V11 bt = true := (free_of_heap (hx11.block bt (blk_lt hbtd))).trans hftd
                obtain ⟨va7, vc7, V12, hrun0, hbt12, hft12, hQ12, hF12⟩ := rQ_step HLd.out HCd.out HDd.out HG2.out HZ.out HZN.out.symm HRF.out HRL7.out (by omega) hx11
                have hrun := hrun0
                rw [HEGV.out, ← HZP.out, ← HXE.out, ← HPL.out] at hrun
                have hS12 : ∀ A, blk (V11.alloc (.cells A 3)) bl = some CB ∧ blk (V11.alloc (.cells A 3)) bL = some CL := fun A => by
                  have hx9 : V11.Extends (V11.alloc (.cells A 3)) := extends_alloc (ext_Ext (Ext.refl _)) _
                  exact ⟨(hx9.blk (blk_lt hS11.1)).trans hS11.1, (hx9.blk (blk_lt hS11.2)).trans hS11.2⟩
                have hbt11a : ∀ A, blk (V11.alloc (.cells A 3)) bt = some GE := fun A => by
                  have hx9 : V11.Extends (V11.alloc (.cells A 3)) := extends_alloc (ext_Ext (Ext.refl _)) _
                  exact (hx9.blk (blk_lt hbt11)).trans hbt11
                have hS13 : blk V12 bl = some CB ∧ blk V12 bL = some CL := ⟨hF12.blk hS11.1 (by rw [lab_lt (blk_lt hSd.1), HOB.out]; exact fun e => by cases e), hF12.blk hS11.2 (by rw [lab_lt (blk_lt hSd.2), HOL.out]; exact fun e => by cases e)⟩
                rw [← HGE.out] at hbt12 hQ12
                have hn1 : ¬ bl = bt := fun e => by have h9 := HOB.out; rw [e, HDd.out.own] at h9; cases h9
                have hn2 : ¬ bL = bt := fun e => by have h9 := HOL.out; rw [e, HDd.out.own] at h9; cases h9
                have hS14 : blk (put V12 bt (splice GE 3 [.slice va7 (gvn + 1) vc7])) bl = some CB ∧ blk (put V12 bt (splice GE 3 [.slice va7 (gvn + 1) vc7])) bL = some CL := ⟨by rw [blk_put, if_neg hn1]; exact hS13.1, by rw [blk_put, if_neg hn2]; exact hS13.2⟩
                have HQ12 := hid_of hQ12
                rw [HEGV.out] at HQ12
                clear hQ12 hF12 e11
                refine hK.out _ _ hS11 (fun hHeld => ?_)
                clear hK K'
                try simp only [Act.put, List.setIfInBounds_toArray, List.set_cons_zero, List.set_cons_succ]
                refine wpAnyH_ready (rs := [22]) (by kernel_rfl) (by simp) ?_
                refine AllReadyH.cons (o := ⟨_, _, _, _, _, _⟩) rfl (fun K' hK => ?_) AllReadyH.nil
                go_simp
                refine hK.out _ _ (hS12 _) (fun hHeld => ?_)
                clear hK K'
                try simp only [Act.put, List.setIfInBounds_toArray, List.set_cons_zero, List.set_cons_succ]
                refine wpAnyH_ready (rs := [23]) (by kernel_rfl) (by simp) ?_
                refine AllReadyH.cons (o := ⟨_, _, _, _, _, _⟩) rfl (fun K' hK => ?_) AllReadyH.nil
                refine wp_append_run _ _ 180 rfl _ _ _ _ rfl rfl hrun ?_
                refine hK.out _ _ hS13 (fun hHeld => ?_)
                clear hK K'
                try simp only [Act.put, List.setIfInBounds_toArray, List.set_cons_zero, List.set_cons_succ]
                refine wpAnyH_take (i := 24) (oi := ⟨_, _, _, _, _, _⟩) (v := ?_) rfl (by kernel_rfl) (by kernel_rfl) (by kernel_rfl) (fun _ _ _ h => h) (Or.inl ⟨by rfl, ?_⟩) (by assumption) ?_
                rotate_left 1
                · intro W' hSw
                  obtain ⟨hS1, hS2⟩ := hSw
                  go_simp
                  try with_reducible rfl
                try simp only [Act.put, List.setIfInBounds_toArray, List.set_cons_zero, List.set_cons_succ]
                refine wpAnyH_ready (rs := [25]) (by kernel_rfl) (by simp) ?_
                refine AllReadyH.cons (o := ⟨_, _, _, _, _, _⟩) rfl (fun K' hK => ?_) AllReadyH.nil
                go_simp
                refine hK.out _ _ hS14 (fun hHeld => ?_)
                clear hK K'
                try simp only [Act.put, List.setIfInBounds_toArray, List.set_cons_zero, List.set_cons_succ]
                refine wpAnyH_done (by kernel_rfl) ?_ _
                rw [HG1.out] at HQ12
                clear hHeld hS10 hS11 hS12 hS13 hS14 hrun hrun0
                go_wp2_with fail
                refine ⟨rfl, rfl, ⟨rfl, rfl, rfl, rfl, rfl, rfl, rfl, rfl, k7 + 1, by omega, ?_, HQ12⟩, ?_⟩
                · show Value.int .i64 _ = _
                  go_num
                · show xn - (intOf (Value.int .i64 _)).toNat < xn - (intOf (G7 27)).toNat
                  rw [H27.out]
                  simp [intOf]; omega
              · go_simp
                refine hpl.mono ?_
                rintro e V11 ⟨rfl, k11, e11⟩
                dsimp only
                have hx11 : V9.drew.Extends V11 := by rw [e11]; exact extends_drewN HX10.out k11
                have hS11 : blk V11 bl = some CB ∧ blk V11 bL = some CL := by rw [e11]; exact ⟨by rw [blk_drewN]; exact hS10.1, by rw [blk_drewN]; exact hS10.2⟩
                have hbt11 : blk V11 bt = some GE := by rw [e11, blk_drewN]; exact hbt10
                have hft11 : free V11 bt = true := (free_of_heap (hx11.block bt (blk_lt hbtd))).trans hftd
                obtain ⟨va7, vc7, V12, hrun0, hbt12, hft12, hQ12, hF12⟩ := rQ_step HLd.out HCd.out HDd.out HG2.out HZ.out HZN.out.symm HRF.out HRL7.out (by omega) hx11
                have hrun := hrun0
                rw [HEGV.out, ← HZP.out, ← HXE.out, ← HPL.out] at hrun
                have hS12 : ∀ A, blk (V11.alloc (.cells A 3)) bl = some CB ∧ blk (V11.alloc (.cells A 3)) bL = some CL := fun A => by
                  have hx9 : V11.Extends (V11.alloc (.cells A 3)) := extends_alloc (ext_Ext (Ext.refl _)) _
                  exact ⟨(hx9.blk (blk_lt hS11.1)).trans hS11.1, (hx9.blk (blk_lt hS11.2)).trans hS11.2⟩
                have hbt11a : ∀ A, blk (V11.alloc (.cells A 3)) bt = some GE := fun A => by
                  have hx9 : V11.Extends (V11.alloc (.cells A 3)) := extends_alloc (ext_Ext (Ext.refl _)) _
                  exact (hx9.blk (blk_lt hbt11)).trans hbt11
                have hS13 : blk V12 bl = some CB ∧ blk V12 bL = some CL := ⟨hF12.blk hS11.1 (by rw [lab_lt (blk_lt hSd.1), HOB.out]; exact fun e => by cases e), hF12.blk hS11.2 (by rw [lab_lt (blk_lt hSd.2), HOL.out]; exact fun e => by cases e)⟩
                rw [← HGE.out] at hbt12 hQ12
                have hn1 : ¬ bl = bt := fun e => by have h9 := HOB.out; rw [e, HDd.out.own] at h9; cases h9
                have hn2 : ¬ bL = bt := fun e => by have h9 := HOL.out; rw [e, HDd.out.own] at h9; cases h9
                have hS14 : blk (put V12 bt (splice GE 3 [.slice va7 (gvn + 1) vc7])) bl = some CB ∧ blk (put V12 bt (splice GE 3 [.slice va7 (gvn + 1) vc7])) bL = some CL := ⟨by rw [blk_put, if_neg hn1]; exact hS13.1, by rw [blk_put, if_neg hn2]; exact hS13.2⟩
                have HQ12 := hid_of hQ12
                rw [HEGV.out] at HQ12
                clear hQ12 hF12 e11
                refine hK.out _ _ hS11 (fun hHeld => ?_)
                clear hK K'
                try simp only [Act.put, List.setIfInBounds_toArray, List.set_cons_zero, List.set_cons_succ]
                refine wpAnyH_ready (rs := [1, 22]) (by kernel_rfl) (by simp) ?_
                refine AllReadyH.cons (o := ⟨_, _, _, _, _, _⟩) rfl (fun K' hK => ?_) (AllReadyH.cons (o := ⟨_, _, _, _, _, _⟩) rfl (fun K' hK => ?_) AllReadyH.nil)
                · go_simp
                  refine hK.out _ _ hS11 (fun hHeld => ?_)
                  clear hK K'
                  try simp only [Act.put, List.setIfInBounds_toArray, List.set_cons_zero, List.set_cons_succ]
                  refine wpAnyH_ready (rs := [22]) (by kernel_rfl) (by simp) ?_
                  refine AllReadyH.cons (o := ⟨_, _, _, _, _, _⟩) rfl (fun K' hK => ?_) AllReadyH.nil
                  go_simp
                  refine hK.out _ _ (hS12 _) (fun hHeld => ?_)
                  clear hK K'
                  try simp only [Act.put, List.setIfInBounds_toArray, List.set_cons_zero, List.set_cons_succ]
                  refine wpAnyH_ready (rs := [23]) (by kernel_rfl) (by simp) ?_
                  refine AllReadyH.cons (o := ⟨_, _, _, _, _, _⟩) rfl (fun K' hK => ?_) AllReadyH.nil
                  refine wp_append_run _ _ 180 rfl _ _ _ _ rfl rfl hrun ?_
                  refine hK.out _ _ hS13 (fun hHeld => ?_)
                  clear hK K'
                  try simp only [Act.put, List.setIfInBounds_toArray, List.set_cons_zero, List.set_cons_succ]
                  refine wpAnyH_take (i := 24) (oi := ⟨_, _, _, _, _, _⟩) (v := ?_) rfl (by kernel_rfl) (by kernel_rfl) (by kernel_rfl) (fun _ _ _ h => h) (Or.inl ⟨by rfl, ?_⟩) (by assumption) ?_
                  rotate_left 1
                  · intro W' hSw
                    obtain ⟨hS1, hS2⟩ := hSw
                    go_simp
                    try with_reducible rfl
                  try simp only [Act.put, List.setIfInBounds_toArray, List.set_cons_zero, List.set_cons_succ]
                  refine wpAnyH_ready (rs := [25]) (by kernel_rfl) (by simp) ?_
                  refine AllReadyH.cons (o := ⟨_, _, _, _, _, _⟩) rfl (fun K' hK => ?_) AllReadyH.nil
                  go_simp
                  refine hK.out _ _ hS14 (fun hHeld => ?_)
                  clear hK K'
                  try simp only [Act.put, List.setIfInBounds_toArray, List.set_cons_zero, List.set_cons_succ]
                  refine wpAnyH_done (by kernel_rfl) ?_ _
                  rw [HG1.out] at HQ12
                  clear hHeld hS10 hS11 hS12 hS13 hS14 hrun hrun0
                  go_wp2_with fail
                  refine ⟨rfl, rfl, ⟨rfl, rfl, rfl, rfl, rfl, rfl, rfl, rfl, k7 + 1, by omega, ?_, HQ12⟩, ?_⟩
                  · show Value.int .i64 _ = _
                    go_num
                  · show xn - (intOf (Value.int .i64 _)).toNat < xn - (intOf (G7 27)).toNat
                    rw [H27.out]
                    simp [intOf]; omega
                · go_simp
                  refine hK.out _ _ (hS12 _) (fun hHeld => ?_)
                  clear hK K'
                  try simp only [Act.put, List.setIfInBounds_toArray, List.set_cons_zero, List.set_cons_succ]
                  refine wpAnyH_ready (rs := [1]) (by kernel_rfl) (by simp) ?_
                  refine AllReadyH.cons (o := ⟨_, _, _, _, _, _⟩) rfl (fun K' hK => ?_) AllReadyH.nil
                  go_simp
                  refine hK.out _ _ (hS12 _) (fun hHeld => ?_)
                  clear hK K'
                  try simp only [Act.put, List.setIfInBounds_toArray, List.set_cons_zero, List.set_cons_succ]
                  refine wpAnyH_ready (rs := [23]) (by kernel_rfl) (by simp) ?_
                  refine AllReadyH.cons (o := ⟨_, _, _, _, _, _⟩) rfl (fun K' hK => ?_) AllReadyH.nil
                  refine wp_append_run _ _ 180 rfl _ _ _ _ rfl rfl hrun ?_
                  refine hK.out _ _ hS13 (fun hHeld => ?_)
                  clear hK K'
                  try simp only [Act.put, List.setIfInBounds_toArray, List.set_cons_zero, List.set_cons_succ]
                  refine wpAnyH_take (i := 24) (oi := ⟨_, _, _, _, _, _⟩) (v := ?_) rfl (by kernel_rfl) (by kernel_rfl) (by kernel_rfl) (fun _ _ _ h => h) (Or.inl ⟨by rfl, ?_⟩) (by assumption) ?_
                  rotate_left 1
                  · intro W' hSw
                    obtain ⟨hS1, hS2⟩ := hSw
                    go_simp
                    try with_reducible rfl
                  try simp only [Act.put, List.setIfInBounds_toArray, List.set_cons_zero, List.set_cons_succ]
                  refine wpAnyH_ready (rs := [25]) (by kernel_rfl) (by simp) ?_
                  refine AllReadyH.cons (o := ⟨_, _, _, _, _, _⟩) rfl (fun K' hK => ?_) AllReadyH.nil
                  go_simp
                  refine hK.out _ _ hS14 (fun hHeld => ?_)
                  clear hK K'
                  try simp only [Act.put, List.setIfInBounds_toArray, List.set_cons_zero, List.set_cons_succ]
                  refine wpAnyH_done (by kernel_rfl) ?_ _
                  rw [HG1.out] at HQ12
                  clear hHeld hS10 hS11 hS12 hS13 hS14 hrun hrun0
                  go_wp2_with fail
                  refine ⟨rfl, rfl, ⟨rfl, rfl, rfl, rfl, rfl, rfl, rfl, rfl, k7 + 1, by omega, ?_, HQ12⟩, ?_⟩
                  · show Value.int .i64 _ = _
                    go_num
                  · show xn - (intOf (Value.int .i64 _)).toNat < xn - (intOf (G7 27)).toNat
                    rw [H27.out]
                    simp [intOf]; omega
        have hkn' : (k : Int) < (vn : Int) := by omega
        obtain ⟨O8, na, nn, nc, ga, gn, gc, K, g, v, hL8, hC8, hD8, hg1, hg2, hfo, hkb, hvk⟩ := HP8.out
        have hdr : Fr (fun _ => False) O8 V8 O8 (V8.drewN 1) := (Fr.refl _ _ _).drewN 1
        have HLd : Hid (LvS W O8 V8.drew bn la5 ln5 lc5 need KD Dn) := hL8.fr hdr (fun e => e) (fun e => e) (fun e => e)
        have HCd : Hid (CtS W.heap.size O8 V8.drew bc na nn nc ga gn gc K Gs L) := hC8.fr hdr (fun e => e) (fun e => e) (fun e => e) (fun e => e)
        have HDd : Hid (NdS W.heap.size O8 V8.drew bt g v []) := hD8.fr hdr (fun e => e) (fun e => e) (fun e => e)
        have HFO := hid_of hfo
        have HKB := hid_of hkb
        have HVK := hid_of hvk
        have HG1 := hid_of hg1
        have HG2 := hid_of hg2
        obtain ⟨x, hx⟩ : ∃ x, u.vals[k]? = some x := ⟨_, List.getElem?_eq_getElem (by rw [HSRL.out]; exact hkn)⟩
        have HXK := hid_of hx
        have hsrc : Rw encS 1 (core O8 V8) va vn u.vals := HT7.out.2.2.2.sub hL8.base
        have hbL8 : blk V8 bL = some CL := (hL8.ext.blk (blk_lt HT1.out)).trans HT1.out
        have hbLd : blk V8.drew bL = some CL := hbL8
        have HOL : Hid (O8 bL = .no) := hL8.lo bL (blk_lt HT1.out)
        obtain ⟨bw, Cw, rfl, wv1, wv2, wv3⟩ := str_at hsrc hx
        obtain ⟨wv4, wv5⟩ := core_blk wv1
        have hbw8 : blk V8 bw = some Cw := wv4
        have hbwd : blk V8.drew bw = some Cw := wv4
        have HOW : Hid (O8 bw = .no) := wv5
        obtain ⟨GE, eGE⟩ : ∃ GE, GE = g.enc := ⟨_, rfl⟩
        have HGE := hid_of eGE
        obtain ⟨gva, gvn, gvc, egv⟩ : ∃ a n c, g.vals = ⟨a, n, c⟩ := ⟨g.vals.a, g.vals.len, g.vals.cap, rfl⟩
        have ge2 : nth GE 2 = some (.slice gva gvn gvc) := by rw [eGE]; show some (Sl.val g.vals) = _; rw [egv]; rfl
        have gel : GE.length = 4 := by rw [eGE]; exact GNode.length_enc _
        have gel2 : 2 < GE.length := by omega
        have gel3 : 2 + 1 ≤ GE.length := by omega
        have hbtd : blk V8.drew bt = some GE := by rw [eGE]; exact hD8.cell
        have hbt8 : blk V8 bt = some GE := by rw [eGE]; exact hD8.cell
        obtain ⟨sx, esx⟩ : ∃ sx : ByteArray, sx = ⟨x.toArray⟩ := ⟨_, rfl⟩
        have hna := nameAt_any HCd.out.nm (by omega) x
        rw [← esx] at hna wv3
        have HEGV := hid_of egv
        have hS0 : blk V8 bL = some CL ∧ blk V8 bw = some Cw := ⟨hbL8, hbw8⟩
        have hSd : blk V8.drew bL = some CL ∧ blk V8.drew bw = some Cw := ⟨hbLd, hbwd⟩
        clear hL8 hC8 hD8 hg1 hg2 hfo hkb hvk hx hdr wv1 wv4 wv5 eGE egv esx hsrc HP8
        go_upto_region 40 with fail
        repeat go_step
        refine wp_region_held_drew (S := fun W' => blk W' bL = some CL ∧ blk W' bw = some Cw) (by kernel_rfl) hS0 (fun hHeld => ?_)
        refine wpAnyH_take (i := 0) (oi := ⟨_, _, _, _, _, _⟩) (v := ?_) rfl (by kernel_rfl) (by kernel_rfl) (by kernel_rfl) (fun _ _ _ h => h) (Or.inl ⟨by rfl, ?_⟩) (by assumption) ?_
        rotate_left 1
        · intro W' hSw
          obtain ⟨hS1, hS2⟩ := hSw
          go_simp
          try with_reducible rfl
        try simp only [Act.put, List.setIfInBounds_toArray, List.set_cons_zero, List.set_cons_succ]
        refine wpAnyH_take (i := 2) (oi := ⟨_, _, _, _, _, _⟩) (v := ?_) rfl (by kernel_rfl) (by kernel_rfl) (by kernel_rfl) (fun _ _ _ h => h) (Or.inl ⟨by rfl, ?_⟩) (by assumption) ?_
        rotate_left 1
        · intro W' hSw
          obtain ⟨hS1, hS2⟩ := hSw
          go_simp
          try with_reducible rfl
        try simp only [Act.put, List.setIfInBounds_toArray, List.set_cons_zero, List.set_cons_succ]
        refine wpAnyH_take (i := 3) (oi := ⟨_, _, _, _, _, _⟩) (v := ?_) rfl (by kernel_rfl) (by kernel_rfl) (by kernel_rfl) (fun _ _ _ h => h) (Or.inl ⟨by rfl, ?_⟩) (by assumption) ?_
        rotate_left 1
        · intro W' hSw
          obtain ⟨hS1, hS2⟩ := hSw
          go_simp
          try with_reducible rfl
        try simp only [Act.put, List.setIfInBounds_toArray, List.set_cons_zero, List.set_cons_succ]
        refine wpAnyH_take (i := 4) (oi := ⟨_, _, _, _, _, _⟩) (v := ?_) rfl (by kernel_rfl) (by kernel_rfl) (by kernel_rfl) (fun _ _ _ h => h) (Or.inl ⟨by rfl, ?_⟩) (by assumption) ?_
        rotate_left 1
        · intro W' hSw
          obtain ⟨hS1, hS2⟩ := hSw
          go_simp
          try with_reducible rfl
        try simp only [Act.put, List.setIfInBounds_toArray, List.set_cons_zero, List.set_cons_succ]
        refine wpAnyH_take (i := 5) (oi := ⟨_, _, _, _, _, _⟩) (v := ?_) rfl (by kernel_rfl) (by kernel_rfl) (by kernel_rfl) (fun _ _ _ h => h) (Or.inl ⟨by rfl, ?_⟩) (by assumption) ?_
        rotate_left 1
        · intro W' hSw
          obtain ⟨hS1, hS2⟩ := hSw
          go_simp
          try with_reducible rfl
        try simp only [Act.put, List.setIfInBounds_toArray, List.set_cons_zero, List.set_cons_succ]
        refine wpAnyH_take (i := 6) (oi := ⟨_, _, _, _, _, _⟩) (v := ?_) rfl (by kernel_rfl) (by kernel_rfl) (by kernel_rfl) (fun _ _ _ h => h) (Or.inl ⟨by rfl, ?_⟩) (by assumption) ?_
        rotate_left 1
        · intro W' hSw
          obtain ⟨hS1, hS2⟩ := hSw
          go_simp
          try with_reducible rfl
        try simp only [Act.put, List.setIfInBounds_toArray, List.set_cons_zero, List.set_cons_succ]
        refine wpAnyH_take (i := 7) (oi := ⟨_, _, _, _, _, _⟩) (v := ?_) rfl (by kernel_rfl) (by kernel_rfl) (by kernel_rfl) (fun _ _ _ h => h) (Or.inl ⟨by rfl, ?_⟩) (by assumption) ?_
        rotate_left 1
        · intro W' hSw
          obtain ⟨hS1, hS2⟩ := hSw
          go_simp
          try with_reducible rfl
        try simp only [Act.put, List.setIfInBounds_toArray, List.set_cons_zero, List.set_cons_succ]
        refine wpAnyH_take (i := 8) (oi := ⟨_, _, _, _, _, _⟩) (v := ?_) rfl (by kernel_rfl) (by kernel_rfl) (by kernel_rfl) (fun _ _ _ h => h) (Or.inl ⟨by rfl, ?_⟩) (by assumption) ?_
        rotate_left 1
        · intro W' hSw
          obtain ⟨hS1, hS2⟩ := hSw
          go_simp
          try with_reducible rfl
        try simp only [Act.put, List.setIfInBounds_toArray, List.set_cons_zero, List.set_cons_succ]
        refine wpAnyH_take (i := 9) (oi := ⟨_, _, _, _, _, _⟩) (v := ?_) rfl (by kernel_rfl) (by kernel_rfl) (by kernel_rfl) (fun _ _ _ h => h) (Or.inl ⟨by rfl, ?_⟩) (by assumption) ?_
        rotate_left 1
        · intro W' hSw
          obtain ⟨hS1, hS2⟩ := hSw
          go_simp
          try with_reducible rfl
        try simp only [Act.put, List.setIfInBounds_toArray, List.set_cons_zero, List.set_cons_succ]
        refine wpAnyH_ready (rs := [1, 10]) (by kernel_rfl) (by simp) ?_
        refine AllReadyH.cons (o := ⟨_, _, _, _, _, _⟩) rfl (fun K' hK => ?_) (AllReadyH.cons (o := ⟨_, _, _, _, _, _⟩) rfl (fun K' hK => ?_) AllReadyH.nil)
        · go_simp
          refine hK.out _ _ hSd (fun hHeld => ?_)
          clear hK K'
          try simp only [Act.put, List.setIfInBounds_toArray, List.set_cons_zero, List.set_cons_succ]
          refine wpAnyH_ready (rs := [10]) (by kernel_rfl) (by simp) ?_
          refine AllReadyH.cons (o := ⟨_, _, _, _, _, _⟩) rfl (fun K' hK => ?_) AllReadyH.nil
          go_simp
          refine hna.mono ?_
          rintro e V6 ⟨na6, nc6, rfl, hN6, hF6⟩
          dsimp only
          obtain ⟨va7, vc7, V7, hrun0, hbt7, hft7, hQ7, hF7⟩ := vQ_step HLd.out HCd.out HDd.out HXK.out HFO.out HKB.out HVK.out (by omega) hN6 hF6
          have hrun := hrun0
          rw [HEGV.out] at hrun
          have hS6 : blk V6 bL = some CL ∧ blk V6 bw = some Cw := ⟨hF6.blk hbLd (by rw [HOL.out]; exact not_N_no), hF6.blk hbwd (by rw [HOW.out]; exact not_N_no)⟩
          have hbt6 : blk V6 bt = some GE := by rw [HGE.out]; exact hF6.blk HDd.out.cell (by rw [HDd.out.own]; exact not_N (by decide) (by decide))
          have hft6 : free V6 bt = true := hF6.free HDd.out.cell HDd.out.fre (by rw [HDd.out.own]; exact not_N (by decide) (by decide))
          have hS7 : ∀ A, blk (V6.alloc (.cells A 3)) bL = some CL ∧ blk (V6.alloc (.cells A 3)) bw = some Cw := fun A => by
            have hx9 : V6.Extends (V6.alloc (.cells A 3)) := extends_alloc (ext_Ext (Ext.refl _)) _
            exact ⟨(hx9.blk (blk_lt hS6.1)).trans hS6.1, (hx9.blk (blk_lt hS6.2)).trans hS6.2⟩
          have hbt6a : ∀ A, blk (V6.alloc (.cells A 3)) bt = some GE := fun A => by
            have hx9 : V6.Extends (V6.alloc (.cells A 3)) := extends_alloc (ext_Ext (Ext.refl _)) _
            exact (hx9.blk (blk_lt hbt6)).trans hbt6
          have hol6 : lab O8 V8.drew.heap.size (.a 9 3) bL = .no := by rw [lab_lt (blk_lt hbLd)]; exact HOL.out
          have how6 : lab O8 V8.drew.heap.size (.a 9 3) bw = .no := by rw [lab_lt (blk_lt hbwd)]; exact HOW.out
          have hS8 : blk V7 bL = some CL ∧ blk V7 bw = some Cw := ⟨hF7.blk hS6.1 (by rw [hol6]; exact fun e => by cases e), hF7.blk hS6.2 (by rw [how6]; exact fun e => by cases e)⟩
          rw [← HGE.out] at hbt7 hQ7
          have hbLt : ¬ bL = bt := fun e => by have h9 := HOL.out; rw [e, HDd.out.own] at h9; cases h9
          have hbwt : ¬ bw = bt := fun e => by have h9 := HOW.out; rw [e, HDd.out.own] at h9; cases h9
          have hS9 : blk (put V7 bt (splice GE 2 [.slice va7 (gvn + 1) vc7])) bL = some CL ∧ blk (put V7 bt (splice GE 2 [.slice va7 (gvn + 1) vc7])) bw = some Cw := ⟨by rw [blk_put, if_neg hbLt]; exact hS8.1, by rw [blk_put, if_neg hbwt]; exact hS8.2⟩
          have HQ7 := hid_of hQ7
          clear hQ7 hF7 hN6 hF6 hol6 how6
          rw [HEGV.out] at HQ7
          refine hK.out _ _ hS6 (fun hHeld => ?_)
          clear hK K'
          try simp only [Act.put, List.setIfInBounds_toArray, List.set_cons_zero, List.set_cons_succ]
          refine wpAnyH_ready (rs := [11]) (by kernel_rfl) (by simp) ?_
          refine AllReadyH.cons (o := ⟨_, _, _, _, _, _⟩) rfl (fun K' hK => ?_) AllReadyH.nil
          go_simp
          refine hK.out _ _ (hS7 _) (fun hHeld => ?_)
          clear hK K'
          try simp only [Act.put, List.setIfInBounds_toArray, List.set_cons_zero, List.set_cons_succ]
          refine wpAnyH_ready (rs := [12]) (by kernel_rfl) (by simp) ?_
          refine AllReadyH.cons (o := ⟨_, _, _, _, _, _⟩) rfl (fun K' hK => ?_) AllReadyH.nil
          refine wp_append_run _ _ 180 rfl _ _ _ _ rfl rfl hrun ?_
          refine hK.out _ _ hS8 (fun hHeld => ?_)
          clear hK K'
          try simp only [Act.put, List.setIfInBounds_toArray, List.set_cons_zero, List.set_cons_succ]
          refine wpAnyH_take (i := 13) (oi := ⟨_, _, _, _, _, _⟩) (v := ?_) rfl (by kernel_rfl) (by kernel_rfl) (by kernel_rfl) (fun _ _ _ h => h) (Or.inl ⟨by rfl, ?_⟩) (by assumption) ?_
          rotate_left 1
          · intro W' hSw
            obtain ⟨hS1, hS2⟩ := hSw
            go_simp
            try with_reducible rfl
          try simp only [Act.put, List.setIfInBounds_toArray, List.set_cons_zero, List.set_cons_succ]
          refine wpAnyH_ready (rs := [14]) (by kernel_rfl) (by simp) ?_
          refine AllReadyH.cons (o := ⟨_, _, _, _, _, _⟩) rfl (fun K' hK => ?_) AllReadyH.nil
          go_simp
          refine hK.out _ _ hS9 (fun hHeld => ?_)
          clear hK K'
          try simp only [Act.put, List.setIfInBounds_toArray, List.set_cons_zero, List.set_cons_succ]
          refine wpAnyH_done (by kernel_rfl) ?_ _
          rw [HG1.out, HG2.out] at HQ7
          clear hHeld hS6 hS7 hS8 hS9 hrun
          go_wp2_with fail
          refine ⟨rfl, rfl, ⟨rfl, rfl, rfl, rfl, rfl, rfl, rfl, k + 1, by omega, ?_, HQ7⟩, ?_⟩
          · show Value.int .i64 _ = _
            go_num
          · show vn - (intOf (Value.int .i64 _)).toNat < vn - (intOf (G6 25)).toNat
            rw [H25.out]
            simp [intOf]; omega
        · go_simp
          refine hna.mono ?_
          rintro e V6 ⟨na6, nc6, rfl, hN6, hF6⟩
          dsimp only
          obtain ⟨va7, vc7, V7, hrun0, hbt7, hft7, hQ7, hF7⟩ := vQ_step HLd.out HCd.out HDd.out HXK.out HFO.out HKB.out HVK.out (by omega) hN6 hF6
          have hrun := hrun0
          rw [HEGV.out] at hrun
          have hS6 : blk V6 bL = some CL ∧ blk V6 bw = some Cw := ⟨hF6.blk hbLd (by rw [HOL.out]; exact not_N_no), hF6.blk hbwd (by rw [HOW.out]; exact not_N_no)⟩
          have hbt6 : blk V6 bt = some GE := by rw [HGE.out]; exact hF6.blk HDd.out.cell (by rw [HDd.out.own]; exact not_N (by decide) (by decide))
          have hft6 : free V6 bt = true := hF6.free HDd.out.cell HDd.out.fre (by rw [HDd.out.own]; exact not_N (by decide) (by decide))
          have hS7 : ∀ A, blk (V6.alloc (.cells A 3)) bL = some CL ∧ blk (V6.alloc (.cells A 3)) bw = some Cw := fun A => by
            have hx9 : V6.Extends (V6.alloc (.cells A 3)) := extends_alloc (ext_Ext (Ext.refl _)) _
            exact ⟨(hx9.blk (blk_lt hS6.1)).trans hS6.1, (hx9.blk (blk_lt hS6.2)).trans hS6.2⟩
          have hbt6a : ∀ A, blk (V6.alloc (.cells A 3)) bt = some GE := fun A => by
            have hx9 : V6.Extends (V6.alloc (.cells A 3)) := extends_alloc (ext_Ext (Ext.refl _)) _
            exact (hx9.blk (blk_lt hbt6)).trans hbt6
          have hol6 : lab O8 V8.drew.heap.size (.a 9 3) bL = .no := by rw [lab_lt (blk_lt hbLd)]; exact HOL.out
          have how6 : lab O8 V8.drew.heap.size (.a 9 3) bw = .no := by rw [lab_lt (blk_lt hbwd)]; exact HOW.out
          have hS8 : blk V7 bL = some CL ∧ blk V7 bw = some Cw := ⟨hF7.blk hS6.1 (by rw [hol6]; exact fun e => by cases e), hF7.blk hS6.2 (by rw [how6]; exact fun e => by cases e)⟩
          rw [← HGE.out] at hbt7 hQ7
          have hbLt : ¬ bL = bt := fun e => by have h9 := HOL.out; rw [e, HDd.out.own] at h9; cases h9
          have hbwt : ¬ bw = bt := fun e => by have h9 := HOW.out; rw [e, HDd.out.own] at h9; cases h9
          have hS9 : blk (put V7 bt (splice GE 2 [.slice va7 (gvn + 1) vc7])) bL = some CL ∧ blk (put V7 bt (splice GE 2 [.slice va7 (gvn + 1) vc7])) bw = some Cw := ⟨by rw [blk_put, if_neg hbLt]; exact hS8.1, by rw [blk_put, if_neg hbwt]; exact hS8.2⟩
          have HQ7 := hid_of hQ7
          clear hQ7 hF7 hN6 hF6 hol6 how6
          rw [HEGV.out] at HQ7
          refine hK.out _ _ hS6 (fun hHeld => ?_)
          clear hK K'
          try simp only [Act.put, List.setIfInBounds_toArray, List.set_cons_zero, List.set_cons_succ]
          refine wpAnyH_ready (rs := [1, 11]) (by kernel_rfl) (by simp) ?_
          refine AllReadyH.cons (o := ⟨_, _, _, _, _, _⟩) rfl (fun K' hK => ?_) (AllReadyH.cons (o := ⟨_, _, _, _, _, _⟩) rfl (fun K' hK => ?_) AllReadyH.nil)
          · go_simp
            refine hK.out _ _ hS6 (fun hHeld => ?_)
            clear hK K'
            try simp only [Act.put, List.setIfInBounds_toArray, List.set_cons_zero, List.set_cons_succ]
            refine wpAnyH_ready (rs := [11]) (by kernel_rfl) (by simp) ?_
            refine AllReadyH.cons (o := ⟨_, _, _, _, _, _⟩) rfl (fun K' hK => ?_) AllReadyH.nil
            go_simp
            refine hK.out _ _ (hS7 _) (fun hHeld => ?_)
            clear hK K'
            try simp only [Act.put, List.setIfInBounds_toArray, List.set_cons_zero, List.set_cons_succ]
            refine wpAnyH_ready (rs := [12]) (by kernel_rfl) (by simp) ?_
            refine AllReadyH.cons (o := ⟨_, _, _, _, _, _⟩) rfl (fun K' hK => ?_) AllReadyH.nil
            refine wp_append_run _ _ 180 rfl _ _ _ _ rfl rfl hrun ?_
            refine hK.out _ _ hS8 (fun hHeld => ?_)
            clear hK K'
            try simp only [Act.put, List.setIfInBounds_toArray, List.set_cons_zero, List.set_cons_succ]
            refine wpAnyH_take (i := 13) (oi := ⟨_, _, _, _, _, _⟩) (v := ?_) rfl (by kernel_rfl) (by kernel_rfl) (by kernel_rfl) (fun _ _ _ h => h) (Or.inl ⟨by rfl, ?_⟩) (by assumption) ?_
            rotate_left 1
            · intro W' hSw
              obtain ⟨hS1, hS2⟩ := hSw
              go_simp
              try with_reducible rfl
            try simp only [Act.put, List.setIfInBounds_toArray, List.set_cons_zero, List.set_cons_succ]
            refine wpAnyH_ready (rs := [14]) (by kernel_rfl) (by simp) ?_
            refine AllReadyH.cons (o := ⟨_, _, _, _, _, _⟩) rfl (fun K' hK => ?_) AllReadyH.nil
            go_simp
            refine hK.out _ _ hS9 (fun hHeld => ?_)
            clear hK K'
            try simp only [Act.put, List.setIfInBounds_toArray, List.set_cons_zero, List.set_cons_succ]
            refine wpAnyH_done (by kernel_rfl) ?_ _
            rw [HG1.out, HG2.out] at HQ7
            clear hHeld hS6 hS7 hS8 hS9 hrun
            go_wp2_with fail
            refine ⟨rfl, rfl, ⟨rfl, rfl, rfl, rfl, rfl, rfl, rfl, k + 1, by omega, ?_, HQ7⟩, ?_⟩
            · show Value.int .i64 _ = _
              go_num
            · show vn - (intOf (Value.int .i64 _)).toNat < vn - (intOf (G6 25)).toNat
              rw [H25.out]
              simp [intOf]; omega
          · go_simp
            refine hK.out _ _ (hS7 _) (fun hHeld => ?_)
            clear hK K'
            try simp only [Act.put, List.setIfInBounds_toArray, List.set_cons_zero, List.set_cons_succ]
            refine wpAnyH_ready (rs := [1]) (by kernel_rfl) (by simp) ?_
            refine AllReadyH.cons (o := ⟨_, _, _, _, _, _⟩) rfl (fun K' hK => ?_) AllReadyH.nil
            go_simp
            refine hK.out _ _ (hS7 _) (fun hHeld => ?_)
            clear hK K'
            try simp only [Act.put, List.setIfInBounds_toArray, List.set_cons_zero, List.set_cons_succ]
            refine wpAnyH_ready (rs := [12]) (by kernel_rfl) (by simp) ?_
            refine AllReadyH.cons (o := ⟨_, _, _, _, _, _⟩) rfl (fun K' hK => ?_) AllReadyH.nil
            refine wp_append_run _ _ 180 rfl _ _ _ _ rfl rfl hrun ?_
            refine hK.out _ _ hS8 (fun hHeld => ?_)
            clear hK K'
            try simp only [Act.put, List.setIfInBounds_toArray, List.set_cons_zero, List.set_cons_succ]
            refine wpAnyH_take (i := 13) (oi := ⟨_, _, _, _, _, _⟩) (v := ?_) rfl (by kernel_rfl) (by kernel_rfl) (by kernel_rfl) (fun _ _ _ h => h) (Or.inl ⟨by rfl, ?_⟩) (by assumption) ?_
            rotate_left 1
            · intro W' hSw
              obtain ⟨hS1, hS2⟩ := hSw
              go_simp
              try with_reducible rfl
            try simp only [Act.put, List.setIfInBounds_toArray, List.set_cons_zero, List.set_cons_succ]
            refine wpAnyH_ready (rs := [14]) (by kernel_rfl) (by simp) ?_
            refine AllReadyH.cons (o := ⟨_, _, _, _, _, _⟩) rfl (fun K' hK => ?_) AllReadyH.nil
            go_simp
            refine hK.out _ _ hS9 (fun hHeld => ?_)
            clear hK K'
            try simp only [Act.put, List.setIfInBounds_toArray, List.set_cons_zero, List.set_cons_succ]
            refine wpAnyH_done (by kernel_rfl) ?_ _
            rw [HG1.out, HG2.out] at HQ7
            clear hHeld hS6 hS7 hS8 hS9 hrun
            go_wp2_with fail
            refine ⟨rfl, rfl, ⟨rfl, rfl, rfl, rfl, rfl, rfl, rfl, k + 1, by omega, ?_, HQ7⟩, ?_⟩
            · show Value.int .i64 _ = _
              go_num
            · show vn - (intOf (Value.int .i64 _)).toNat < vn - (intOf (G6 25)).toNat
              rw [H25.out]
              simp [intOf]; omega
    have hin' : (i : Int) < (ln : Int) := by omega
    have i0 : (0 : Int) ≤ (i : Int) := by omega
    have i2 : ((i : Int)).toNat = i := by omega
    obtain ⟨O6, na, nn, nc, ga, gn, gc, K0, Gs, L, hL6, hC6, hfo, hkb, hlk⟩ := HP.out
    obtain ⟨s, hs⟩ : ∃ s, Ls[i]? = some s := ⟨_, List.getElem?_eq_getElem (by rw [HLN.out]; exact hin)⟩
    have hs4 := hL6.sh s (List.mem_of_getElem? hs)
    obtain ⟨kk, hkk⟩ : ∃ kk, KL[i]? = some kk := ⟨_, List.getElem?_eq_getElem (by have := hL6.ll; have := HLN.out; omega)⟩
    obtain ⟨bL, CL, rfl, g1, g2, g3⟩ := (hL6.row.rw MStep.len).1.2 i kk hkk
    have hst := hL6.st i kk s hkk hs
    obtain ⟨kp, ⟨ka, kn, kc⟩, kr, kv⟩ := kk
    have m0 : nth CL (i * 4) = some (.int .i64 kp) := nth_in (j := 0) g3 rfl (by omega)
    have e0 : kp = (s.pred : Int) := hst.1
    rw [e0] at m0
    have l9 : (i + 1) * 4 ≤ ln * 4 := Nat.mul_le_mul_right _ hin
    have c0' : i * 4 < CL.length := by omega
    have hkn4 : s.row.length = kn := hst.2.2.1.1
    obtain ⟨sp, esp⟩ : ∃ sp, sp = s.pred := ⟨_, rfl⟩
    rw [← esp] at m0
    have HSP := hid_of esp
    have HHS := hid_of hs
    have HKK := hid_of hkk
    have HSRL := hid_of hkn4
    have HS4 := hid_of hs4
    have HL6 := hid_of hL6
    have HC6 := hid_of hC6
    have HFO3 := hid_of hfo
    have HKB3 := hid_of hkb
    have HLK3 := hid_of hlk
    clear hL6 hC6 hfo hkb hlk hs hkk hst e0 esp l9 HP g2 g3 hkn4 hs4
    go_upto_region 27 with fail
    refine wp_world (fun V' => V6.Extends V' ∧ blk V' V6.heap.size = some (GNode.enc ⟨-1, (sp : Int), ⟨none, 0, 0⟩, ⟨none, 0, 0⟩⟩) ∧ free V' V6.heap.size = true) ⟨extends_alloc (ext_Ext (Ext.refl _)) _, by rw [blk_alloc, if_pos rfl]; try exact congrArg some (GNode.all_set _ _), by rw [free_alloc, if_pos rfl]⟩ ?_
    rintro V7 ⟨hx7, hbt, hft⟩
    obtain ⟨bt, ebt⟩ : ∃ bt, bt = V6.heap.size := ⟨_, rfl⟩
    rw [← ebt] at hbt hft ⊢
    have hFn := fr_new (O := O6) hx7 (.a 9 5)
    have HQ4 : Hid (vQ W V7 bn (some ⟨bL, 0, none⟩) ln lc need KL Ls bc bt (-1) (sp : Int) Gs L s.row K0 (4 * i) 0) := by
      refine ⟨_, na, nn, nc, ga, gn, gc, K0, _, [], HL6.out.fr hFn (lab9 (by decide)) (lab9 (by decide)) (fun e => by cases e), HC6.out.fr hFn (lab9 (by decide)) (lab9 (by decide)) (lab9 (by decide)) (fun e => by cases e), ⟨hbt, hft, by rw [ebt]; exact lab_ge (Nat.le_refl _), ⟨ownsNil _ _ _ _, fun k hk => by cases hk⟩, ⟨ownsNil _ _ _ _, fun k hk => by cases hk⟩⟩, rfl, rfl, rfl, HKB3.out, rfl⟩
    clear hx7 hbt hft ebt hFn HL6 HC6 g1 m0 c0'
    go_upto_region 28 with fail
    refine wp_loop_f 308 (yB4 W b ob bn bc bt i ta tn tc (some ⟨bL, 0, none⟩) ln lc kn (fun V k => vQ W V bn (some ⟨bL, 0, none⟩) ln lc need KL Ls bc bt (-1) (sp : Int) Gs L s.row K0 (4 * i) k)) (fun f _ => kn - (intOf (f 22)).toNat) rfl ⟨rfl, rfl, rfl, rfl, rfl, rfl, rfl, rfl, 0, by omega, rfl, HQ4⟩ ?_
    clear HQ4
    intro G4 V8 hrel
    obtain ⟨f0, f2, f12, f13, f18, f19, f20, f21, k, hk, f22, HP8⟩ := hrel
    have H22 := hid_of f22
    rw [zframe308, f0, f2, f12, f13, f18, f19, f20, f21, f22]
    clear f0 f2 f12 f13 f18 f19 f20 f21 f22
    have hkn4 : kn ≤ 4 := by rw [← HSRL.out]; exact HS4.out
    have k0 : (0 : Int) ≤ (k : Int) := by omega
    have k2 : ((k : Int)).toNat = k := by omega
    have l9 : (i + 1) * 4 ≤ ln * 4 := Nat.mul_le_mul_right _ hin
    by_cases hkn : k < kn
    rotate_left 1
    · have hkn' : ¬ (k : Int) < (kn : Int) := by omega
      obtain ⟨O8, na, nn, nc, ga, gn, gc, K, g, v, hL8, hC8, hD8, hg1, hg2, hfo, hkb, hvk⟩ := HP8.out
      obtain ⟨bL', CL, ebL, g1, g2, g3⟩ := (hL8.row.rw MStep.len).1.2 i _ HKK.out
      have ebL' : bL = bL' := by cases ebL; rfl
      subst ebL'
      have m1 : nth CL (i * 4 + 1) = some (.slice ka kn kc) := nth_in (j := 1) g3 rfl (by omega)
      have c1' : i * 4 + 1 < CL.length := by omega
      have hbL8 : blk V8 bL = some CL := g1
      have hlk9 := HLK3.out
      obtain ⟨CE, eCE⟩ : ∃ CE, CE = [Value.slice na nn nc, .slice ga gn gc] := ⟨_, rfl⟩
      have HCE := hid_of eCE
      have ce1 : nth CE 1 = some (.slice ga gn gc) := by rw [eCE]; rfl
      have cel : CE.length = 2 := by rw [eCE]; rfl
      have cel1 : 1 < CE.length := by omega
      have cel2 : 1 + 1 ≤ CE.length := by omega
      have hbc8 : blk V8 bc = some CE := by rw [eCE]; exact hC8.nm.cell
      obtain ⟨GE, eGE⟩ : ∃ GE, GE = g.enc := ⟨_, rfl⟩
      have gel : GE.length = 4 := by rw [eGE]; exact GNode.length_enc _
      have gel0 : 0 + 4 ≤ GE.length := by omega
      have gok : okCells 4 GE = true := by rw [eGE]; exact GNode.ok_enc _
      have gsg : seg GE 0 4 = GE := seg_all _ _ gel
      have hbt8 : blk V8 bt = some GE := by rw [eGE]; exact hD8.cell
      have hgb : ∀ w, (bsliceOp 177 1 #[(0, .agg GE.toArray)]).run Tryz.prog w = .ok (.value (.slice (some ⟨w.heap.size, 0, none⟩) 1 1)) (w.alloc (.cells GE.toArray 182)) := fun w => by rw [eGE]; exact bslice217 w g
      obtain ⟨ga9, gc9, V9, hrun, hbc9, hfc9, hC9, hF9⟩ := hC8.addNode hD8 (by have h9 := hC8.ns.1; omega)
      rw [← eGE] at hrun
      rw [← eCE] at hbc9
      have esp9 : splice CE 1 [.slice ga9 (gn + 1) gc9] = [.slice na nn nc, .slice ga9 (gn + 1) gc9] := by rw [eCE]; rfl
      have hfo2 : (K, v) = valF K0 s.row := by rw [hfo, List.take_of_length_le (by rw [HSRL.out]; omega)]; rfl
      have HQ9 : Hid (lQ W (put V9 bc (splice CE 1 [.slice ga9 (gn + 1) gc9])) bn (some ⟨bL, 0, none⟩) ln lc need KL Ls bc (i + 1)) := by
        show lQ _ _ _ _ _ _ _ _ _ _ _
        rw [esp9]
        have hng : ∀ j, j ≠ 2 → j ≠ 4 → ¬ isG (.a 9 j) := fun j h2 h4 => by rintro (e | e); exact h2 (Lab.a.inj e).2; exact h4 (Lab.a.inj e).2
        refine ⟨_, na, nn, nc, ga9, gn + 1, gc9, K, Gs ++ [g], _, hL8.d67.fr hF9 (hng 0 (by decide) (by decide)) (hng 1 (by decide) (by decide)) (by rintro (e | e) <;> cases e), hC9, ?_, ?_, ?_⟩
        · rw [take_at HHS.out, List.foldl_append, ← HFO3.out, hg1, hg2]
          show _ = leS (K0, L) s
          unfold leS
          dsimp only
          rw [← hfo2, HSP.out]
        · have := HS4.out; have := HSRL.out; omega
        · rw [List.length_append, HLK3.out]; rfl
      clear hL8 hC8 hD8 hg1 hg2 hfo hkb hvk g1 g2 g3 ebL hC9 hF9 hfo2 esp9 eGE eCE HP8
      go_wp2_with (at_builtin; refine wpList_append_run rfl _ _ 177 rfl _ _ _ _ rfl rfl hrun ?_)
      refine ⟨rfl, rfl, ⟨rfl, rfl, rfl, rfl, rfl, rfl, i + 1, by omega, ?_, HQ9⟩, ?_⟩
      · show Value.int .i64 _ = _
        go_num
      · show ln - (intOf (Value.int .i64 _)).toNat < ln - (intOf (G 20)).toNat
        rw [H20.out]
        simp [intOf]; omega
    have hkn' : (k : Int) < (kn : Int) := by omega
    obtain ⟨O8, na, nn, nc, ga, gn, gc, K, g, v, hL8, hC8, hD8, hg1, hg2, hfo, hkb, hvk⟩ := HP8.out
    have hdr : Fr (fun _ => False) O8 V8 O8 (V8.drewN 1) := (Fr.refl _ _ _).drewN 1
    have HLd : Hid (LvS W O8 V8.drew bn (some ⟨bL, 0, none⟩) ln lc need KL Ls) := hL8.fr hdr (fun e => e) (fun e => e) (fun e => e)
    have HCd : Hid (CtS W.heap.size O8 V8.drew bc na nn nc ga gn gc K Gs L) := hC8.fr hdr (fun e => e) (fun e => e) (fun e => e) (fun e => e)
    have HDd : Hid (NdS W.heap.size O8 V8.drew bt g v []) := hD8.fr hdr (fun e => e) (fun e => e) (fun e => e)
    have HFO := hid_of hfo
    have HKB := hid_of hkb
    have HVK := hid_of hvk
    have HG1 := hid_of hg1
    have HG2 := hid_of hg2
    obtain ⟨x, hx⟩ : ∃ x, s.row[k]? = some x := ⟨_, List.getElem?_eq_getElem (by rw [HSRL.out]; exact hkn)⟩
    have HXK := hid_of hx
    obtain ⟨bL', CL, ebL, g1, g2, g3⟩ := (hL8.row.rw MStep.len).1.2 i _ HKK.out
    have ebL' : bL = bL' := by cases ebL; rfl
    subst ebL'
    have hsrc : Rw encS 1 (core O8 V8) ka kn s.row := (hL8.st i _ s HKK.out HHS.out).2.2.1
    have m1 : nth CL (i * 4 + 1) = some (.slice ka kn kc) := nth_in (j := 1) g3 rfl (by omega)
    have c1' : i * 4 + 1 < CL.length := by omega
    have hbL8 : blk V8 bL = some CL := g1
    have hbLd : blk V8.drew bL = some CL := g1
    have HOL : Hid (O8 bL = .a 9 0) := hL8.row.2 bL rfl
    clear g1 g2 g3 ebL
    obtain ⟨bw, Cw, rfl, wv1, wv2, wv3⟩ := str_at hsrc hx
    obtain ⟨wv4, wv5⟩ := core_blk wv1
    have hbw8 : blk V8 bw = some Cw := wv4
    have hbwd : blk V8.drew bw = some Cw := wv4
    have HOW : Hid (O8 bw = .no) := wv5
    obtain ⟨GE, eGE⟩ : ∃ GE, GE = g.enc := ⟨_, rfl⟩
    have HGE := hid_of eGE
    obtain ⟨gva, gvn, gvc, egv⟩ : ∃ a n c, g.vals = ⟨a, n, c⟩ := ⟨g.vals.a, g.vals.len, g.vals.cap, rfl⟩
    have ge2 : nth GE 2 = some (.slice gva gvn gvc) := by rw [eGE]; show some (Sl.val g.vals) = _; rw [egv]; rfl
    have gel : GE.length = 4 := by rw [eGE]; exact GNode.length_enc _
    have gel2 : 2 < GE.length := by omega
    have gel3 : 2 + 1 ≤ GE.length := by omega
    have hbtd : blk V8.drew bt = some GE := by rw [eGE]; exact hD8.cell
    have hbt8 : blk V8 bt = some GE := by rw [eGE]; exact hD8.cell
    obtain ⟨sx, esx⟩ : ∃ sx : ByteArray, sx = ⟨x.toArray⟩ := ⟨_, rfl⟩
    have hna := nameAt_any HCd.out.nm (by omega) x
    rw [← esx] at hna wv3
    have HEGV := hid_of egv
    have hS0 : blk V8 bL = some CL ∧ blk V8 bw = some Cw := ⟨hbL8, hbw8⟩
    have hSd : blk V8.drew bL = some CL ∧ blk V8.drew bw = some Cw := ⟨hbLd, hbwd⟩
    clear hL8 hC8 hD8 hg1 hg2 hfo hkb hvk hx hdr wv1 wv4 wv5 eGE egv esx hsrc HP8
    go_upto_region 30 with fail
    repeat go_step
    refine wp_region_held_drew (S := fun W' => blk W' bL = some CL ∧ blk W' bw = some Cw) (by kernel_rfl) hS0 (fun hHeld => ?_)
    refine wpAnyH_take (i := 0) (oi := ⟨_, _, _, _, _, _⟩) (v := ?_) rfl (by kernel_rfl) (by kernel_rfl) (by kernel_rfl) (fun _ _ _ h => h) (Or.inl ⟨by rfl, ?_⟩) (by assumption) ?_
    rotate_left 1
    · intro W' hSw
      obtain ⟨hS1, hS2⟩ := hSw
      go_simp
      try with_reducible rfl
    try simp only [Act.put, List.setIfInBounds_toArray, List.set_cons_zero, List.set_cons_succ]
    refine wpAnyH_take (i := 2) (oi := ⟨_, _, _, _, _, _⟩) (v := ?_) rfl (by kernel_rfl) (by kernel_rfl) (by kernel_rfl) (fun _ _ _ h => h) (Or.inl ⟨by rfl, ?_⟩) (by assumption) ?_
    rotate_left 1
    · intro W' hSw
      obtain ⟨hS1, hS2⟩ := hSw
      go_simp
      try with_reducible rfl
    try simp only [Act.put, List.setIfInBounds_toArray, List.set_cons_zero, List.set_cons_succ]
    refine wpAnyH_take (i := 3) (oi := ⟨_, _, _, _, _, _⟩) (v := ?_) rfl (by kernel_rfl) (by kernel_rfl) (by kernel_rfl) (fun _ _ _ h => h) (Or.inl ⟨by rfl, ?_⟩) (by assumption) ?_
    rotate_left 1
    · intro W' hSw
      obtain ⟨hS1, hS2⟩ := hSw
      go_simp
      try with_reducible rfl
    try simp only [Act.put, List.setIfInBounds_toArray, List.set_cons_zero, List.set_cons_succ]
    refine wpAnyH_take (i := 4) (oi := ⟨_, _, _, _, _, _⟩) (v := ?_) rfl (by kernel_rfl) (by kernel_rfl) (by kernel_rfl) (fun _ _ _ h => h) (Or.inl ⟨by rfl, ?_⟩) (by assumption) ?_
    rotate_left 1
    · intro W' hSw
      obtain ⟨hS1, hS2⟩ := hSw
      go_simp
      try with_reducible rfl
    try simp only [Act.put, List.setIfInBounds_toArray, List.set_cons_zero, List.set_cons_succ]
    refine wpAnyH_take (i := 5) (oi := ⟨_, _, _, _, _, _⟩) (v := ?_) rfl (by kernel_rfl) (by kernel_rfl) (by kernel_rfl) (fun _ _ _ h => h) (Or.inl ⟨by rfl, ?_⟩) (by assumption) ?_
    rotate_left 1
    · intro W' hSw
      obtain ⟨hS1, hS2⟩ := hSw
      go_simp
      try with_reducible rfl
    try simp only [Act.put, List.setIfInBounds_toArray, List.set_cons_zero, List.set_cons_succ]
    refine wpAnyH_take (i := 6) (oi := ⟨_, _, _, _, _, _⟩) (v := ?_) rfl (by kernel_rfl) (by kernel_rfl) (by kernel_rfl) (fun _ _ _ h => h) (Or.inl ⟨by rfl, ?_⟩) (by assumption) ?_
    rotate_left 1
    · intro W' hSw
      obtain ⟨hS1, hS2⟩ := hSw
      go_simp
      try with_reducible rfl
    try simp only [Act.put, List.setIfInBounds_toArray, List.set_cons_zero, List.set_cons_succ]
    refine wpAnyH_take (i := 7) (oi := ⟨_, _, _, _, _, _⟩) (v := ?_) rfl (by kernel_rfl) (by kernel_rfl) (by kernel_rfl) (fun _ _ _ h => h) (Or.inl ⟨by rfl, ?_⟩) (by assumption) ?_
    rotate_left 1
    · intro W' hSw
      obtain ⟨hS1, hS2⟩ := hSw
      go_simp
      try with_reducible rfl
    try simp only [Act.put, List.setIfInBounds_toArray, List.set_cons_zero, List.set_cons_succ]
    refine wpAnyH_take (i := 8) (oi := ⟨_, _, _, _, _, _⟩) (v := ?_) rfl (by kernel_rfl) (by kernel_rfl) (by kernel_rfl) (fun _ _ _ h => h) (Or.inl ⟨by rfl, ?_⟩) (by assumption) ?_
    rotate_left 1
    · intro W' hSw
      obtain ⟨hS1, hS2⟩ := hSw
      go_simp
      try with_reducible rfl
    try simp only [Act.put, List.setIfInBounds_toArray, List.set_cons_zero, List.set_cons_succ]
    refine wpAnyH_take (i := 9) (oi := ⟨_, _, _, _, _, _⟩) (v := ?_) rfl (by kernel_rfl) (by kernel_rfl) (by kernel_rfl) (fun _ _ _ h => h) (Or.inl ⟨by rfl, ?_⟩) (by assumption) ?_
    rotate_left 1
    · intro W' hSw
      obtain ⟨hS1, hS2⟩ := hSw
      go_simp
      try with_reducible rfl
    try simp only [Act.put, List.setIfInBounds_toArray, List.set_cons_zero, List.set_cons_succ]
    refine wpAnyH_ready (rs := [1, 10]) (by kernel_rfl) (by simp) ?_
    refine AllReadyH.cons (o := ⟨_, _, _, _, _, _⟩) rfl (fun K' hK => ?_) (AllReadyH.cons (o := ⟨_, _, _, _, _, _⟩) rfl (fun K' hK => ?_) AllReadyH.nil)
    · go_simp
      refine hK.out _ _ hSd (fun hHeld => ?_)
      clear hK K'
      try simp only [Act.put, List.setIfInBounds_toArray, List.set_cons_zero, List.set_cons_succ]
      refine wpAnyH_ready (rs := [10]) (by kernel_rfl) (by simp) ?_
      refine AllReadyH.cons (o := ⟨_, _, _, _, _, _⟩) rfl (fun K' hK => ?_) AllReadyH.nil
      go_simp
      refine hna.mono ?_
      rintro e V6 ⟨na6, nc6, rfl, hN6, hF6⟩
      dsimp only
      obtain ⟨va7, vc7, V7, hrun0, hbt7, hft7, hQ7, hF7⟩ := vQ_step HLd.out HCd.out HDd.out HXK.out HFO.out HKB.out HVK.out (by omega) hN6 hF6
      have hrun := hrun0
      rw [HEGV.out] at hrun
      have hS6 : blk V6 bL = some CL ∧ blk V6 bw = some Cw := ⟨hF6.blk hbLd (by rw [HOL.out]; exact not_N (by decide) (by decide)), hF6.blk hbwd (by rw [HOW.out]; exact not_N_no)⟩
      have hbt6 : blk V6 bt = some GE := by rw [HGE.out]; exact hF6.blk HDd.out.cell (by rw [HDd.out.own]; exact not_N (by decide) (by decide))
      have hft6 : free V6 bt = true := hF6.free HDd.out.cell HDd.out.fre (by rw [HDd.out.own]; exact not_N (by decide) (by decide))
      have hS7 : ∀ A, blk (V6.alloc (.cells A 3)) bL = some CL ∧ blk (V6.alloc (.cells A 3)) bw = some Cw := fun A => by
        have hx9 : V6.Extends (V6.alloc (.cells A 3)) := extends_alloc (ext_Ext (Ext.refl _)) _
        exact ⟨(hx9.blk (blk_lt hS6.1)).trans hS6.1, (hx9.blk (blk_lt hS6.2)).trans hS6.2⟩
      have hbt6a : ∀ A, blk (V6.alloc (.cells A 3)) bt = some GE := fun A => by
        have hx9 : V6.Extends (V6.alloc (.cells A 3)) := extends_alloc (ext_Ext (Ext.refl _)) _
        exact (hx9.blk (blk_lt hbt6)).trans hbt6
      have hol6 : lab O8 V8.drew.heap.size (.a 9 3) bL = .a 9 0 := by rw [lab_lt (blk_lt hbLd)]; exact HOL.out
      have how6 : lab O8 V8.drew.heap.size (.a 9 3) bw = .no := by rw [lab_lt (blk_lt hbwd)]; exact HOW.out
      have hS8 : blk V7 bL = some CL ∧ blk V7 bw = some Cw := ⟨hF7.blk hS6.1 (by rw [hol6]; exact lab9 (by decide)), hF7.blk hS6.2 (by rw [how6]; exact fun e => by cases e)⟩
      rw [← HGE.out] at hbt7 hQ7
      have hbLt : ¬ bL = bt := fun e => by have h9 := HOL.out; rw [e, HDd.out.own] at h9; cases h9
      have hbwt : ¬ bw = bt := fun e => by have h9 := HOW.out; rw [e, HDd.out.own] at h9; cases h9
      have hS9 : blk (put V7 bt (splice GE 2 [.slice va7 (gvn + 1) vc7])) bL = some CL ∧ blk (put V7 bt (splice GE 2 [.slice va7 (gvn + 1) vc7])) bw = some Cw := ⟨by rw [blk_put, if_neg hbLt]; exact hS8.1, by rw [blk_put, if_neg hbwt]; exact hS8.2⟩
      have HQ7 := hid_of hQ7
      clear hQ7 hF7 hN6 hF6 hol6 how6
      rw [HEGV.out] at HQ7
      refine hK.out _ _ hS6 (fun hHeld => ?_)
      clear hK K'
      try simp only [Act.put, List.setIfInBounds_toArray, List.set_cons_zero, List.set_cons_succ]
      refine wpAnyH_ready (rs := [11]) (by kernel_rfl) (by simp) ?_
      refine AllReadyH.cons (o := ⟨_, _, _, _, _, _⟩) rfl (fun K' hK => ?_) AllReadyH.nil
      go_simp
      refine hK.out _ _ (hS7 _) (fun hHeld => ?_)
      clear hK K'
      try simp only [Act.put, List.setIfInBounds_toArray, List.set_cons_zero, List.set_cons_succ]
      refine wpAnyH_ready (rs := [12]) (by kernel_rfl) (by simp) ?_
      refine AllReadyH.cons (o := ⟨_, _, _, _, _, _⟩) rfl (fun K' hK => ?_) AllReadyH.nil
      refine wp_append_run _ _ 180 rfl _ _ _ _ rfl rfl hrun ?_
      refine hK.out _ _ hS8 (fun hHeld => ?_)
      clear hK K'
      try simp only [Act.put, List.setIfInBounds_toArray, List.set_cons_zero, List.set_cons_succ]
      refine wpAnyH_take (i := 13) (oi := ⟨_, _, _, _, _, _⟩) (v := ?_) rfl (by kernel_rfl) (by kernel_rfl) (by kernel_rfl) (fun _ _ _ h => h) (Or.inl ⟨by rfl, ?_⟩) (by assumption) ?_
      rotate_left 1
      · intro W' hSw
        obtain ⟨hS1, hS2⟩ := hSw
        go_simp
        try with_reducible rfl
      try simp only [Act.put, List.setIfInBounds_toArray, List.set_cons_zero, List.set_cons_succ]
      refine wpAnyH_ready (rs := [14]) (by kernel_rfl) (by simp) ?_
      refine AllReadyH.cons (o := ⟨_, _, _, _, _, _⟩) rfl (fun K' hK => ?_) AllReadyH.nil
      go_simp
      refine hK.out _ _ hS9 (fun hHeld => ?_)
      clear hK K'
      try simp only [Act.put, List.setIfInBounds_toArray, List.set_cons_zero, List.set_cons_succ]
      refine wpAnyH_done (by kernel_rfl) ?_ _
      rw [HG1.out, HG2.out] at HQ7
      clear hHeld hS6 hS7 hS8 hS9 hrun
      go_wp2_with fail
      refine ⟨rfl, rfl, ⟨rfl, rfl, rfl, rfl, rfl, rfl, rfl, rfl, k + 1, by omega, ?_, HQ7⟩, ?_⟩
      · show Value.int .i64 _ = _
        go_num
      · show kn - (intOf (Value.int .i64 _)).toNat < kn - (intOf (G4 22)).toNat
        rw [H22.out]
        simp [intOf]; omega
    · go_simp
      refine hna.mono ?_
      rintro e V6 ⟨na6, nc6, rfl, hN6, hF6⟩
      dsimp only
      obtain ⟨va7, vc7, V7, hrun0, hbt7, hft7, hQ7, hF7⟩ := vQ_step HLd.out HCd.out HDd.out HXK.out HFO.out HKB.out HVK.out (by omega) hN6 hF6
      have hrun := hrun0
      rw [HEGV.out] at hrun
      have hS6 : blk V6 bL = some CL ∧ blk V6 bw = some Cw := ⟨hF6.blk hbLd (by rw [HOL.out]; exact not_N (by decide) (by decide)), hF6.blk hbwd (by rw [HOW.out]; exact not_N_no)⟩
      have hbt6 : blk V6 bt = some GE := by rw [HGE.out]; exact hF6.blk HDd.out.cell (by rw [HDd.out.own]; exact not_N (by decide) (by decide))
      have hft6 : free V6 bt = true := hF6.free HDd.out.cell HDd.out.fre (by rw [HDd.out.own]; exact not_N (by decide) (by decide))
      have hS7 : ∀ A, blk (V6.alloc (.cells A 3)) bL = some CL ∧ blk (V6.alloc (.cells A 3)) bw = some Cw := fun A => by
        have hx9 : V6.Extends (V6.alloc (.cells A 3)) := extends_alloc (ext_Ext (Ext.refl _)) _
        exact ⟨(hx9.blk (blk_lt hS6.1)).trans hS6.1, (hx9.blk (blk_lt hS6.2)).trans hS6.2⟩
      have hbt6a : ∀ A, blk (V6.alloc (.cells A 3)) bt = some GE := fun A => by
        have hx9 : V6.Extends (V6.alloc (.cells A 3)) := extends_alloc (ext_Ext (Ext.refl _)) _
        exact (hx9.blk (blk_lt hbt6)).trans hbt6
      have hol6 : lab O8 V8.drew.heap.size (.a 9 3) bL = .a 9 0 := by rw [lab_lt (blk_lt hbLd)]; exact HOL.out
      have how6 : lab O8 V8.drew.heap.size (.a 9 3) bw = .no := by rw [lab_lt (blk_lt hbwd)]; exact HOW.out
      have hS8 : blk V7 bL = some CL ∧ blk V7 bw = some Cw := ⟨hF7.blk hS6.1 (by rw [hol6]; exact lab9 (by decide)), hF7.blk hS6.2 (by rw [how6]; exact fun e => by cases e)⟩
      rw [← HGE.out] at hbt7 hQ7
      have hbLt : ¬ bL = bt := fun e => by have h9 := HOL.out; rw [e, HDd.out.own] at h9; cases h9
      have hbwt : ¬ bw = bt := fun e => by have h9 := HOW.out; rw [e, HDd.out.own] at h9; cases h9
      have hS9 : blk (put V7 bt (splice GE 2 [.slice va7 (gvn + 1) vc7])) bL = some CL ∧ blk (put V7 bt (splice GE 2 [.slice va7 (gvn + 1) vc7])) bw = some Cw := ⟨by rw [blk_put, if_neg hbLt]; exact hS8.1, by rw [blk_put, if_neg hbwt]; exact hS8.2⟩
      have HQ7 := hid_of hQ7
      clear hQ7 hF7 hN6 hF6 hol6 how6
      rw [HEGV.out] at HQ7
      refine hK.out _ _ hS6 (fun hHeld => ?_)
      clear hK K'
      try simp only [Act.put, List.setIfInBounds_toArray, List.set_cons_zero, List.set_cons_succ]
      refine wpAnyH_ready (rs := [1, 11]) (by kernel_rfl) (by simp) ?_
      refine AllReadyH.cons (o := ⟨_, _, _, _, _, _⟩) rfl (fun K' hK => ?_) (AllReadyH.cons (o := ⟨_, _, _, _, _, _⟩) rfl (fun K' hK => ?_) AllReadyH.nil)
      · go_simp
        refine hK.out _ _ hS6 (fun hHeld => ?_)
        clear hK K'
        try simp only [Act.put, List.setIfInBounds_toArray, List.set_cons_zero, List.set_cons_succ]
        refine wpAnyH_ready (rs := [11]) (by kernel_rfl) (by simp) ?_
        refine AllReadyH.cons (o := ⟨_, _, _, _, _, _⟩) rfl (fun K' hK => ?_) AllReadyH.nil
        go_simp
        refine hK.out _ _ (hS7 _) (fun hHeld => ?_)
        clear hK K'
        try simp only [Act.put, List.setIfInBounds_toArray, List.set_cons_zero, List.set_cons_succ]
        refine wpAnyH_ready (rs := [12]) (by kernel_rfl) (by simp) ?_
        refine AllReadyH.cons (o := ⟨_, _, _, _, _, _⟩) rfl (fun K' hK => ?_) AllReadyH.nil
        refine wp_append_run _ _ 180 rfl _ _ _ _ rfl rfl hrun ?_
        refine hK.out _ _ hS8 (fun hHeld => ?_)
        clear hK K'
        try simp only [Act.put, List.setIfInBounds_toArray, List.set_cons_zero, List.set_cons_succ]
        refine wpAnyH_take (i := 13) (oi := ⟨_, _, _, _, _, _⟩) (v := ?_) rfl (by kernel_rfl) (by kernel_rfl) (by kernel_rfl) (fun _ _ _ h => h) (Or.inl ⟨by rfl, ?_⟩) (by assumption) ?_
        rotate_left 1
        · intro W' hSw
          obtain ⟨hS1, hS2⟩ := hSw
          go_simp
          try with_reducible rfl
        try simp only [Act.put, List.setIfInBounds_toArray, List.set_cons_zero, List.set_cons_succ]
        refine wpAnyH_ready (rs := [14]) (by kernel_rfl) (by simp) ?_
        refine AllReadyH.cons (o := ⟨_, _, _, _, _, _⟩) rfl (fun K' hK => ?_) AllReadyH.nil
        go_simp
        refine hK.out _ _ hS9 (fun hHeld => ?_)
        clear hK K'
        try simp only [Act.put, List.setIfInBounds_toArray, List.set_cons_zero, List.set_cons_succ]
        refine wpAnyH_done (by kernel_rfl) ?_ _
        rw [HG1.out, HG2.out] at HQ7
        clear hHeld hS6 hS7 hS8 hS9 hrun
        go_wp2_with fail
        refine ⟨rfl, rfl, ⟨rfl, rfl, rfl, rfl, rfl, rfl, rfl, rfl, k + 1, by omega, ?_, HQ7⟩, ?_⟩
        · show Value.int .i64 _ = _
          go_num
        · show kn - (intOf (Value.int .i64 _)).toNat < kn - (intOf (G4 22)).toNat
          rw [H22.out]
          simp [intOf]; omega
      · go_simp
        refine hK.out _ _ (hS7 _) (fun hHeld => ?_)
        clear hK K'
        try simp only [Act.put, List.setIfInBounds_toArray, List.set_cons_zero, List.set_cons_succ]
        refine wpAnyH_ready (rs := [1]) (by kernel_rfl) (by simp) ?_
        refine AllReadyH.cons (o := ⟨_, _, _, _, _, _⟩) rfl (fun K' hK => ?_) AllReadyH.nil
        go_simp
        refine hK.out _ _ (hS7 _) (fun hHeld => ?_)
        clear hK K'
        try simp only [Act.put, List.setIfInBounds_toArray, List.set_cons_zero, List.set_cons_succ]
        refine wpAnyH_ready (rs := [12]) (by kernel_rfl) (by simp) ?_
        refine AllReadyH.cons (o := ⟨_, _, _, _, _, _⟩) rfl (fun K' hK => ?_) AllReadyH.nil
        refine wp_append_run _ _ 180 rfl _ _ _ _ rfl rfl hrun ?_
        refine hK.out _ _ hS8 (fun hHeld => ?_)
        clear hK K'
        try simp only [Act.put, List.setIfInBounds_toArray, List.set_cons_zero, List.set_cons_succ]
        refine wpAnyH_take (i := 13) (oi := ⟨_, _, _, _, _, _⟩) (v := ?_) rfl (by kernel_rfl) (by kernel_rfl) (by kernel_rfl) (fun _ _ _ h => h) (Or.inl ⟨by rfl, ?_⟩) (by assumption) ?_
        rotate_left 1
        · intro W' hSw
          obtain ⟨hS1, hS2⟩ := hSw
          go_simp
          try with_reducible rfl
        try simp only [Act.put, List.setIfInBounds_toArray, List.set_cons_zero, List.set_cons_succ]
        refine wpAnyH_ready (rs := [14]) (by kernel_rfl) (by simp) ?_
        refine AllReadyH.cons (o := ⟨_, _, _, _, _, _⟩) rfl (fun K' hK => ?_) AllReadyH.nil
        go_simp
        refine hK.out _ _ hS9 (fun hHeld => ?_)
        clear hK K'
        try simp only [Act.put, List.setIfInBounds_toArray, List.set_cons_zero, List.set_cons_succ]
        refine wpAnyH_done (by kernel_rfl) ?_ _
        rw [HG1.out, HG2.out] at HQ7
        clear hHeld hS6 hS7 hS8 hS9 hrun
        go_wp2_with fail
        refine ⟨rfl, rfl, ⟨rfl, rfl, rfl, rfl, rfl, rfl, rfl, rfl, k + 1, by omega, ?_, HQ7⟩, ?_⟩
        · show Value.int .i64 _ = _
          go_num
        · show kn - (intOf (Value.int .i64 _)).toNat < kn - (intOf (G4 22)).toNat
          rw [H22.out]
          simp [intOf]; omega
  obtain ⟨i', ei⟩ : ∃ i', i = i' + 1 := ⟨i - 1, by omega⟩
  subst ei
  have e14 : F 14 = .int .i64 (i' : Int) := by rw [f14]; congr 1; omega
  rw [zframe308, f0, f2, f12, f13, e14]
  clear f0 f2 f12 f13 f14
  have hi1 : i' < tn := by omega
  have p0 : (0 : Int) ≤ (i' : Int) := by omega
  have p1 : (i' : Int) < (tn : Int) := by omega
  have p2 : ((i' : Int)).toNat = i' := by omega
  have p3 : ¬ (i' : Int) < 0 := by omega
  have p4 : IntKind.i64.wrap ((i' : Int) - 1) = (i' : Int) - 1 := by rw [IntKind.wrap_i64]; omega
  obtain ⟨O4, need, KL, Ls, hLv, hnl, hll, htot⟩ := HL.out
  have HLV := hid_of hLv
  have HX4 := hid_of hLv.ext
  obtain ⟨u, hu⟩ : ∃ u, T[i']? = some u := ⟨_, List.getElem?_eq_getElem (by rw [HTL.out]; exact hi1)⟩
  obtain ⟨rr, hrr, hfit, hvl, hplc⟩ := HH.out.stp u (List.mem_of_getElem? hu)
  obtain ⟨bt, CT, kt, rfl, t1, t2, t3, t4, t5, t6, t7⟩ := HT.out.at hu
  obtain ⟨bu, CU, xr, rfl, u1, u2, u3, u4, u5⟩ := HRUL.out u.rule rr hrr
  obtain ⟨xh, ⟨xa, xn, xc⟩⟩ := xr
  dsimp only at u3 u5
  have hbody : bodyOf p u = rr.body := by unfold bodyOf; rw [List.getD_eq_getElem?_getD, hrr]; rfl
  rw [ndL_succ hu] at htot
  have HTOT1 : Hid (ndL p T i' (ndI p T i' u (need, Ls)) = tot) := htot
  have hrl : u.rule < gn00 := by rw [HGN.out]; exact (List.getElem?_eq_some_iff.1 hrr).1
  obtain ⟨ur, eur⟩ : ∃ ur, ur = u.rule := ⟨_, rfl⟩
  rw [← eur] at t5 u2 u3 hrl
  have r0 : (0 : Int) ≤ (ur : Int) := by omega
  have r1 : (ur : Int) < (gn00 : Int) := by omega
  have r2 : ((ur : Int)).toNat = ur := by omega
  have ct2 : i' * 4 + 2 < CT.length := by omega
  have ct3 : i' * 4 + 3 < CT.length := by omega
  have cu2 : ur * 3 + 2 < CU.length := by omega
  have HT1 := hid_of t1
  have HU1 := hid_of u1
  have hb4 : blk V4 b = some Ce := (HX4.out.blk (blk_lt HB.out)).trans HB.out
  have ht4 : blk V4 bt = some CT := (HX4.out.blk (blk_lt t1)).trans t1
  have hu4 : blk V4 bu = some CU := (HX4.out.blk (blk_lt u1)).trans u1
  have HU4 := hid_of u4
  have HU5 := hid_of u5
  have HFIT := hid_of hfit
  have HVL := hid_of hvl
  have HPLC := hid_of hplc
  have HUU := hid_of hu
  have HBODY := hid_of hbody
  have HT7 := hid_of t7
  obtain ⟨ktp, ⟨kra, krn, krc⟩, ktr, ⟨va, vn, vc⟩⟩ := kt
  dsimp only [Sl.val] at t4 t6
  obtain ⟨body, ebody⟩ : ∃ body, body = rr.body := ⟨_, rfl⟩
  have hxn : body.length = xn := by rw [ebody]; exact HU5.out
  have HEB := hid_of ebody
  obtain ⟨nb, enb⟩ : ∃ nb, nb = need.getD i' false := ⟨_, rfl⟩
  have HNB := hid_of enb
  have HNI : Hid (nb = false → ndI p T i' u (need, Ls) = (need, Ls)) := fun e => by unfold ndI; rw [if_neg (by show ¬ need.getD i' false = true; rw [← HNB.out, e]; decide)]
  have HNI2 : Hid (nb = true → ndI p T i' u (need, Ls) = body.foldl (ndZ p T u) (need, Ls)) := fun e => by unfold ndI; rw [if_pos (by show need.getD i' false = true; rw [← HNB.out]; exact e), HBODY.out, ebody]
  have HXN := hid_of hxn
  have hxn1 : xn ≤ 1000 := by rw [← hxn, ebody]; exact HFIT.out.bl
  clear hLv htot hu hrr hfit hvl hplc t1 t2 t7 u1 u2 u4 u5 hbody eur HL ebody enb hxn
  go_upto_region 11 with fail
  repeat go_step
  refine wp_region_held_drew (S := fun W' => blk W' b = some Ce ∧ blk W' bt = some CT ∧ blk W' bu = some CU) (by kernel_rfl) ⟨hb4, ht4, hu4⟩ (fun hHeld => ?_)
  refine wpAnyH_take (i := 0) (oi := ⟨_, _, _, _, _, _⟩) (v := ?_) rfl (by kernel_rfl) (by kernel_rfl) (by kernel_rfl) (fun _ _ _ h => h) (Or.inl ⟨by rfl, ?_⟩) (by assumption) ?_
  rotate_left 1
  · intro W' hSw
    obtain ⟨hS1, hS2, hS3⟩ := hSw
    go_simp
    try with_reducible rfl
  try simp only [Act.put, List.setIfInBounds_toArray, List.set_cons_zero, List.set_cons_succ]
  refine wpAnyH_take (i := 1) (oi := ⟨_, _, _, _, _, _⟩) (v := ?_) rfl (by kernel_rfl) (by kernel_rfl) (by kernel_rfl) (fun _ _ _ h => h) (Or.inl ⟨by rfl, ?_⟩) (by assumption) ?_
  rotate_left 1
  · intro W' hSw
    obtain ⟨hS1, hS2, hS3⟩ := hSw
    go_simp
    try with_reducible rfl
  try simp only [Act.put, List.setIfInBounds_toArray, List.set_cons_zero, List.set_cons_succ]
  refine wpAnyH_take (i := 2) (oi := ⟨_, _, _, _, _, _⟩) (v := ?_) rfl (by kernel_rfl) (by kernel_rfl) (by kernel_rfl) (fun _ _ _ h => h) (Or.inl ⟨by rfl, ?_⟩) (by assumption) ?_
  rotate_left 1
  · intro W' hSw
    obtain ⟨hS1, hS2, hS3⟩ := hSw
    go_simp
    try with_reducible rfl
  try simp only [Act.put, List.setIfInBounds_toArray, List.set_cons_zero, List.set_cons_succ]
  refine wpAnyH_take (i := 3) (oi := ⟨_, _, _, _, _, _⟩) (v := ?_) rfl (by kernel_rfl) (by kernel_rfl) (by kernel_rfl) (fun _ _ _ h => h) (Or.inl ⟨by rfl, ?_⟩) (by assumption) ?_
  rotate_left 1
  · intro W' hSw
    obtain ⟨hS1, hS2, hS3⟩ := hSw
    go_simp
    try with_reducible rfl
  try simp only [Act.put, List.setIfInBounds_toArray, List.set_cons_zero, List.set_cons_succ]
  refine wpAnyH_take (i := 4) (oi := ⟨_, _, _, _, _, _⟩) (v := ?_) rfl (by kernel_rfl) (by kernel_rfl) (by kernel_rfl) (fun _ _ _ h => h) (Or.inl ⟨by rfl, ?_⟩) (by assumption) ?_
  rotate_left 1
  · intro W' hSw
    obtain ⟨hS1, hS2, hS3⟩ := hSw
    go_simp
    try with_reducible rfl
  try simp only [Act.put, List.setIfInBounds_toArray, List.set_cons_zero, List.set_cons_succ]
  refine wpAnyH_take (i := 5) (oi := ⟨_, _, _, _, _, _⟩) (v := ?_) rfl (by kernel_rfl) (by kernel_rfl) (by kernel_rfl) (fun _ _ _ h => h) (Or.inl ⟨by rfl, ?_⟩) (by assumption) ?_
  rotate_left 1
  · intro W' hSw
    obtain ⟨hS1, hS2, hS3⟩ := hSw
    go_simp
    try with_reducible rfl
  try simp only [Act.put, List.setIfInBounds_toArray, List.set_cons_zero, List.set_cons_succ]
  refine wpAnyH_take (i := 6) (oi := ⟨_, _, _, _, _, _⟩) (v := ?_) rfl (by kernel_rfl) (by kernel_rfl) (by kernel_rfl) (fun _ _ _ h => h) (Or.inl ⟨by rfl, ?_⟩) (by assumption) ?_
  rotate_left 1
  · intro W' hSw
    obtain ⟨hS1, hS2, hS3⟩ := hSw
    go_simp
    try with_reducible rfl
  try simp only [Act.put, List.setIfInBounds_toArray, List.set_cons_zero, List.set_cons_succ]
  refine wpAnyH_take (i := 7) (oi := ⟨_, _, _, _, _, _⟩) (v := ?_) rfl (by kernel_rfl) (by kernel_rfl) (by kernel_rfl) (fun _ _ _ h => h) (Or.inl ⟨by rfl, ?_⟩) (by assumption) ?_
  rotate_left 1
  · intro W' hSw
    obtain ⟨hS1, hS2, hS3⟩ := hSw
    go_simp
    try with_reducible rfl
  try simp only [Act.put, List.setIfInBounds_toArray, List.set_cons_zero, List.set_cons_succ]
  refine wpAnyH_take (i := 8) (oi := ⟨_, _, _, _, _, _⟩) (v := ?_) rfl (by kernel_rfl) (by kernel_rfl) (by kernel_rfl) (fun _ _ _ h => h) (Or.inl ⟨by rfl, ?_⟩) (by assumption) ?_
  rotate_left 1
  · intro W' hSw
    obtain ⟨hS1, hS2, hS3⟩ := hSw
    go_simp
    try with_reducible rfl
  try simp only [Act.put, List.setIfInBounds_toArray, List.set_cons_zero, List.set_cons_succ]
  refine wpAnyH_take (i := 9) (oi := ⟨_, _, _, _, _, _⟩) (v := ?_) rfl (by kernel_rfl) (by kernel_rfl) (by kernel_rfl) (fun _ _ _ h => h) (Or.inl ⟨by rfl, ?_⟩) (by assumption) ?_
  rotate_left 1
  · intro W' hSw
    obtain ⟨hS1, hS2, hS3⟩ := hSw
    go_simp
    try with_reducible rfl
  try simp only [Act.put, List.setIfInBounds_toArray, List.set_cons_zero, List.set_cons_succ]
  refine wpAnyH_take (i := 10) (oi := ⟨_, _, _, _, _, _⟩) (v := ?_) rfl (by kernel_rfl) (by kernel_rfl) (by kernel_rfl) (fun _ _ _ h => h) (Or.inl ⟨by rfl, ?_⟩) (by assumption) ?_
  rotate_left 1
  · intro W' hSw
    obtain ⟨hS1, hS2, hS3⟩ := hSw
    go_simp
    try with_reducible rfl
  try simp only [Act.put, List.setIfInBounds_toArray, List.set_cons_zero, List.set_cons_succ]
  refine wpAnyH_take (i := 11) (oi := ⟨_, _, _, _, _, _⟩) (v := ?_) rfl (by kernel_rfl) (by kernel_rfl) (by kernel_rfl) (fun _ _ _ h => h) (Or.inl ⟨by rfl, ?_⟩) (by assumption) ?_
  rotate_left 1
  · intro W' hSw
    obtain ⟨hS1, hS2, hS3⟩ := hSw
    go_simp
    try with_reducible rfl
  try simp only [Act.put, List.setIfInBounds_toArray, List.set_cons_zero, List.set_cons_succ]
  refine wpAnyH_take (i := 12) (oi := ⟨_, _, _, _, _, _⟩) (v := ?_) rfl (by kernel_rfl) (by kernel_rfl) (by kernel_rfl) (fun _ _ _ h => h) (Or.inl ⟨by rfl, ?_⟩) (by assumption) ?_
  rotate_left 1
  · intro W' hSw
    obtain ⟨hS1, hS2, hS3⟩ := hSw
    go_simp
    try with_reducible rfl
  try simp only [Act.put, List.setIfInBounds_toArray, List.set_cons_zero, List.set_cons_succ]
  refine wpAnyH_done (by kernel_rfl) ?_ _
  clear hHeld
  have HJ2 : Hid (∃ O need' KL' Ls', LvS W O V4.drew bn la ln lc need' KL' Ls' ∧ need'.length = tn ∧ Ls'.length ≤ 1 + 1000 * (tn - (i' + 1)) + 0 ∧ (need', Ls') = (body.take 0).foldl (ndZ p T u) (need, Ls)) := ⟨O4, need, KL, Ls, HLV.out.drewN 1, hnl, by omega, rfl⟩
  clear hb4 ht4 hu4 HLV HX4 hll
  go_upto_region 13 with fail
  refine wp_loop_f 308 (yB2 W b ob bn (some ⟨bt, 0, none⟩) tn tc i' xa xn xc p T u body (need, Ls) nb) (fun f _ => xn - (intOf (f 16)).toNat) rfl ⟨rfl, rfl, rfl, rfl, rfl, 0, la, ln, lc, by omega, rfl, rfl, (by obtain ⟨a1, a2, a3, a4, h1, h2, h3, h4⟩ := HJ2.out; exact ⟨a1, a2, a3, a4, h1, h2, h3, h4, fun _ => rfl⟩)⟩ ?_
  clear HJ2
  intro G V5 hrel
  obtain ⟨f0, f2, f13, f14, f15, k, la5, ln5, lc5, hk, f16, f12, HL5⟩ := hrel
  have H16 := hid_of f16
  rw [zframe308, f0, f2, f12, f13, f14, f15, f16]
  clear f0 f2 f12 f13 f14 f15 f16
  obtain ⟨O5, need5, KL5, Ls5, hLv5, hnl5, hll5, hX5, hnb5⟩ := HL5.out
  have HLV5 := hid_of hLv5
  have HX5 := hid_of hLv5.ext
  have HF5 := hid_of hX5
  have hn5 : need5.getD i' false = nb := by
    have e5 : need5 = ((body.take k).foldl (ndZ p T u) (need, Ls)).1 := by rw [← hX5]
    cases nb with
    | true => rw [e5]; exact fold_need _ _ HNB.out.symm
    | false => rw [e5, hnb5 rfl]; exact HNB.out.symm
  obtain ⟨NC, eNC⟩ : ∃ NC, NC = bolC need5 := ⟨_, rfl⟩
  have hbn5 : blk V5 bn = some NC := by rw [eNC]; exact hLv5.nb
  have hfn5 : free V5 bn = true := hLv5.nf
  have hNl : NC.length = tn := by rw [eNC, bolC_len, hnl5]
  have hNi : nth NC i' = some (.bool nb) := by rw [eNC, bolC_at (by omega), hn5]
  have hNil : i' < NC.length := by omega
  have HNC := hid_of eNC
  have HNL5 := hid_of hnl5
  clear hLv5 hX5 hn5 eNC HL5
  have k0 : (0 : Int) ≤ (k : Int) := by omega
  have k2 : ((k : Int)).toNat = k := by omega
  by_cases hkx : k < xn ∧ nb = true
  rotate_left 1
  · have HEND : Hid (ndL p T i' (need5, Ls5) = tot) := by
      show _ = _
      rw [HF5.out, ← HTOT1.out]
      cases nb with
      | true =>
        have hkn : ¬ k < xn := fun e => hkx ⟨e, rfl⟩
        rw [HNI2.out rfl, List.take_of_length_le (by rw [HXN.out]; omega)]
      | false => rw [HNI.out rfl, hnb5 rfl]; rfl
    have HJ1 : Hid (∃ O need KL Ls, LvS W O V5 bn la5 ln5 lc5 need KL Ls ∧ need.length = tn ∧ Ls.length ≤ 1 + 1000 * (tn - i') ∧ ndL p T i' (need, Ls) = tot) := ⟨O5, need5, KL5, Ls5, HLV5.out, HNL5.out, by omega, HEND.out⟩
    by_cases hk' : k < xn
    · have hnbf : nb = false := by cases nb with | true => exact absurd ⟨hk', rfl⟩ hkx | false => rfl
      have hkl : (k : Int) < (xn : Int) := by omega
      rw [hnbf] at hNi
      clear hkx HEND
      go_wp2_with fail
      try rw [p4]
      refine ⟨rfl, rfl, ⟨rfl, rfl, rfl, i', la5, ln5, lc5, by omega, ?_, rfl, HJ1⟩, ?_⟩
      · first | rfl | (show Value.int .i64 _ = _; go_num)
      · show (intOf (Value.int .i64 _) + 1).toNat < (intOf (F 14) + 1).toNat
        rw [e14]
        simp [intOf]
    · have hkl : ¬ (k : Int) < (xn : Int) := by omega
      clear hkx HEND
      go_wp2_with fail
      try rw [p4]
      refine ⟨rfl, rfl, ⟨rfl, rfl, rfl, i', la5, ln5, lc5, by omega, ?_, rfl, HJ1⟩, ?_⟩
      · first | rfl | (show Value.int .i64 _ = _; go_num)
      · show (intOf (Value.int .i64 _) + 1).toNat < (intOf (F 14) + 1).toNat
        rw [e14]
        simp [intOf]
  obtain ⟨hk1, hnbt⟩ := hkx
  have hkl : (k : Int) < (xn : Int) := by omega
  rw [hnbt] at hNi
  have HNBT := hid_of hnbt
  clear hnbt
  obtain ⟨z, hz⟩ : ∃ z, body[k]? = some z := ⟨_, List.getElem?_eq_getElem (by rw [HXN.out]; exact hk1)⟩
  have hzb : z ∈ rr.body := by rw [← HEB.out]; exact List.mem_of_getElem? hz
  obtain ⟨bl, CB, at9, rfl, l1, l2, l3, l4, l5, l6⟩ := lit_at HU4.out (by rw [← HEB.out]; exact hz)

  have hbl5 : blk V5 bl = some CB := (HX5.out.blk (blk_lt l1)).trans l1
  have ht5 : blk V5 bt = some CT := (HX5.out.blk (blk_lt HT1.out)).trans HT1.out
  have hb5 : blk V5 b = some Ce := (HX5.out.blk (blk_lt HB.out)).trans HB.out
  have cb0 : k * 3 < CB.length := by omega
  have cb1 : k * 3 + 1 < CB.length := by omega
  have cb2 : k * 3 + 1 + 2 ≤ CB.length := by omega
  obtain ⟨AE, eAE⟩ : ∃ AE, AE = at9.enc := ⟨_, rfl⟩
  have ael : AE.length = 2 := by rw [eAE]; exact Atom.length_enc _
  rw [← eAE] at l5
  have hins := instance_any V5.drew b ob p (HPO.out.sub (Sub.ext (extends_drewN HX5.out 1))) at9 z.atom (l6.sub (Sub.ext (extends_drewN HX5.out 1))) (Nat.le_trans (HFIT.out.ar z.atom (List.mem_cons_of_mem _ (List.mem_map.2 ⟨z, hzb, rfl⟩))) (by decide)) va vn vc u.vals (HT7.out.2.2.2.sub (Sub.ext (extends_drewN HX5.out 1))) (HFIT.out.fit HVL.out (List.mem_cons_of_mem _ (List.mem_map.2 ⟨z, hzb, rfl⟩)))
  rw [← eAE] at hins
  unfold InPost at hins
  obtain ⟨x, ex⟩ : ∃ x, x = instF p.pool u.vals z.atom := ⟨_, rfl⟩
  rw [← ex] at hins
  have HXE := hid_of ex
  obtain ⟨zp, ezp⟩ : ∃ zp, zp = z.atom.pred := ⟨_, rfl⟩
  rw [← ezp] at l4
  have HZP := hid_of ezp
  obtain ⟨zn, ezn⟩ : ∃ zn, zn = z.neg := ⟨_, rfl⟩
  rw [← ezn] at l3
  have HZN := hid_of ezn
  have HZ := hid_of hz
  have HZB := hid_of hzb
  have HL1 := hid_of l1
  obtain ⟨xm, exm⟩ : ∃ xm, xm = x.length := ⟨_, rfl⟩
  rw [← exm] at hins
  have HXM := hid_of exm
  have hxm4 : x.length ≤ 4 := by
    rw [ex]; show (z.atom.args.map _).length ≤ 4
    rw [List.length_map]
    exact HFIT.out.ar z.atom (List.mem_cons_of_mem _ (List.mem_map.2 ⟨z, hzb, rfl⟩))
  have HXM4 := hid_of hxm4
  have HSTEP : Hid (∀ X', X' = ndZ p T u (need5, Ls5) z → X' = (body.take (k + 1)).foldl (ndZ p T u) (need, Ls)) := fun X' e => by
    rw [take_at hz, List.foldl_append, ← HF5.out]; exact e
  clear hz hzb l1 l2 l6 eAE ex ezp ezn exm hxm4
  go_upto_region 15 with fail
  repeat go_step
  refine wp_region_held_drew (S := fun W' => blk W' bl = some CB ∧ blk W' bt = some CT) (by kernel_rfl) ⟨hbl5, ht5⟩ (fun hHeld => ?_)
  refine wpAnyH_take (i := 0) (oi := ⟨_, _, _, _, _, _⟩) (v := ?_) rfl (by kernel_rfl) (by kernel_rfl) (by kernel_rfl) (fun _ _ _ h => h) (Or.inl ⟨by rfl, ?_⟩) (by assumption) ?_
  rotate_left 1
  · intro W' hSw
    obtain ⟨hS1, hS2⟩ := hSw
    go_simp
    try with_reducible rfl
  try simp only [Act.put, List.setIfInBounds_toArray, List.set_cons_zero, List.set_cons_succ]
  refine wpAnyH_take (i := 1) (oi := ⟨_, _, _, _, _, _⟩) (v := ?_) rfl (by kernel_rfl) (by kernel_rfl) (by kernel_rfl) (fun _ _ _ h => h) (Or.inl ⟨by rfl, ?_⟩) (by assumption) ?_
  rotate_left 1
  · intro W' hSw
    obtain ⟨hS1, hS2⟩ := hSw
    go_simp
    try with_reducible rfl
  try simp only [Act.put, List.setIfInBounds_toArray, List.set_cons_zero, List.set_cons_succ]
  refine wpAnyH_take (i := 2) (oi := ⟨_, _, _, _, _, _⟩) (v := ?_) rfl (by kernel_rfl) (by kernel_rfl) (by kernel_rfl) (fun _ _ _ h => h) (Or.inl ⟨by rfl, ?_⟩) (by assumption) ?_
  rotate_left 1
  · intro W' hSw
    obtain ⟨hS1, hS2⟩ := hSw
    go_simp
    try with_reducible rfl
  try simp only [Act.put, List.setIfInBounds_toArray, List.set_cons_zero, List.set_cons_succ]
  refine wpAnyH_take (i := 3) (oi := ⟨_, _, _, _, _, _⟩) (v := ?_) rfl (by kernel_rfl) (by kernel_rfl) (by kernel_rfl) (fun _ _ _ h => h) (Or.inl ⟨by rfl, ?_⟩) (by assumption) ?_
  rotate_left 1
  · intro W' hSw
    obtain ⟨hS1, hS2⟩ := hSw
    go_simp
    try with_reducible rfl
  try simp only [Act.put, List.setIfInBounds_toArray, List.set_cons_zero, List.set_cons_succ]
  refine wpAnyH_take (i := 4) (oi := ⟨_, _, _, _, _, _⟩) (v := ?_) rfl (by kernel_rfl) (by kernel_rfl) (by kernel_rfl) (fun _ _ _ h => h) (Or.inl ⟨by rfl, ?_⟩) (by assumption) ?_
  rotate_left 1
  · intro W' hSw
    obtain ⟨hS1, hS2⟩ := hSw
    go_simp
    try with_reducible rfl
  try simp only [Act.put, List.setIfInBounds_toArray, List.set_cons_zero, List.set_cons_succ]
  refine wpAnyH_take (i := 5) (oi := ⟨_, _, _, _, _, _⟩) (v := ?_) rfl (by kernel_rfl) (by kernel_rfl) (by kernel_rfl) (fun _ _ _ h => h) (Or.inl ⟨by rfl, ?_⟩) (by assumption) ?_
  rotate_left 1
  · intro W' hSw
    obtain ⟨hS1, hS2⟩ := hSw
    go_simp
    try with_reducible rfl
  try simp only [Act.put, List.setIfInBounds_toArray, List.set_cons_zero, List.set_cons_succ]
  refine wpAnyH_take (i := 6) (oi := ⟨_, _, _, _, _, _⟩) (v := ?_) rfl (by kernel_rfl) (by kernel_rfl) (by kernel_rfl) (fun _ _ _ h => h) (Or.inl ⟨by rfl, ?_⟩) (by assumption) ?_
  rotate_left 1
  · intro W' hSw
    obtain ⟨hS1, hS2⟩ := hSw
    go_simp
    try with_reducible rfl
  try simp only [Act.put, List.setIfInBounds_toArray, List.set_cons_zero, List.set_cons_succ]
  refine wpAnyH_take (i := 7) (oi := ⟨_, _, _, _, _, _⟩) (v := ?_) rfl (by kernel_rfl) (by kernel_rfl) (by kernel_rfl) (fun _ _ _ h => h) (Or.inl ⟨by rfl, ?_⟩) (by assumption) ?_
  rotate_left 1
  · intro W' hSw
    obtain ⟨hS1, hS2⟩ := hSw
    go_simp
    try with_reducible rfl
  try simp only [Act.put, List.setIfInBounds_toArray, List.set_cons_zero, List.set_cons_succ]
  refine wpAnyH_take (i := 8) (oi := ⟨_, _, _, _, _, _⟩) (v := ?_) rfl (by kernel_rfl) (by kernel_rfl) (by kernel_rfl) (fun _ _ _ h => h) (Or.inl ⟨by rfl, ?_⟩) (by assumption) ?_
  rotate_left 1
  · intro W' hSw
    obtain ⟨hS1, hS2⟩ := hSw
    go_simp
    try with_reducible rfl
  try simp only [Act.put, List.setIfInBounds_toArray, List.set_cons_zero, List.set_cons_succ]
  refine wpAnyH_take (i := 9) (oi := ⟨_, _, _, _, _, _⟩) (v := ?_) rfl (by kernel_rfl) (by kernel_rfl) (by kernel_rfl) (fun _ _ _ h => h) (Or.inl ⟨by rfl, ?_⟩) (by assumption) ?_
  rotate_left 1
  · intro W' hSw
    obtain ⟨hS1, hS2⟩ := hSw
    go_simp
    try with_reducible rfl
  try simp only [Act.put, List.setIfInBounds_toArray, List.set_cons_zero, List.set_cons_succ]
  refine wpAnyH_take (i := 10) (oi := ⟨_, _, _, _, _, _⟩) (v := ?_) rfl (by kernel_rfl) (by kernel_rfl) (by kernel_rfl) (fun _ _ _ h => h) (Or.inl ⟨by rfl, ?_⟩) (by assumption) ?_
  rotate_left 1
  · intro W' hSw
    obtain ⟨hS1, hS2⟩ := hSw
    go_simp
    try with_reducible rfl
  try simp only [Act.put, List.setIfInBounds_toArray, List.set_cons_zero, List.set_cons_succ]
  refine wpAnyH_ready (rs := [11]) (by kernel_rfl) (by simp) ?_
  refine AllReadyH.cons (o := ⟨_, _, _, _, _, _⟩) rfl (fun K' hK => ?_) AllReadyH.nil
  go_simp
  refine hins.mono ?_
  rintro e V6 ⟨ia, ic, rfl, hO6⟩
  dsimp only
  have hS6 : blk V6 bl = some CB ∧ blk V6 bt = some CT := ⟨(hO6.2.1.blk (blk_lt hbl5)).trans hbl5, (hO6.2.1.blk (blk_lt ht5)).trans ht5⟩
  refine hK.out _ _ hS6 (fun hHeld => ?_)
  clear hK K'
  try simp only [Act.put, List.setIfInBounds_toArray, List.set_cons_zero, List.set_cons_succ]
  refine wpAnyH_take (i := 12) (oi := ⟨_, _, _, _, _, _⟩) (v := ?_) rfl (by kernel_rfl) (by kernel_rfl) (by kernel_rfl) (fun _ _ _ h => h) (Or.inl ⟨by rfl, ?_⟩) (by assumption) ?_
  rotate_left 1
  · intro W' hSw
    obtain ⟨hS1, hS2⟩ := hSw
    go_simp
    try with_reducible rfl
  try simp only [Act.put, List.setIfInBounds_toArray, List.set_cons_zero, List.set_cons_succ]
  refine wpAnyH_done (by kernel_rfl) ?_ _
  clear hHeld hins
  obtain ⟨hbl6, ht6⟩ := hS6
  have HX56 : Hid (V5.Extends V6) := (extends_drewN (ext_Ext (Ext.refl _)) 1).trans hO6.2.1
  have HLV6 : Hid (LvS W (lab O5 V5.heap.size .no) V6 bn la5 ln5 lc5 need5 KL5 Ls5) := HLV5.out.grow HX56.out
  have HXR : Hid (Rw encS 1 (core (lab O5 V5.heap.size .no) V6) ia xm x) := by
    refine (hO6.rw el78).tocore (fun b9 C9 e9 _ => ?_)
    exact lab_ge (row_at hO6.1 b9 (by rw [e9]; rfl)).1
  have hb6 : blk V6 b = some Ce := (HX56.out.blk (blk_lt hb5)).trans hb5
  have hbn6 : blk V6 bn = some NC := (HX56.out.blk (blk_lt hbn5)).trans hbn5
  have hfn6 : free V6 bn = true := (free_of_heap (HX56.out.block bn (blk_lt hbn5))).trans hfn5
  obtain ⟨O6, eO6⟩ : ∃ O6, O6 = lab O5 V5.heap.size .no := ⟨_, rfl⟩
  rw [← eO6] at HLV6 HXR
  clear hO6 eO6 hb5 hbn5 hfn5 hbl5 ht5 HLV5 HX5 HX56
  have HNEX : Hid (∀ O' V' la' ln' lc' need' KL' Ls', LvS W O' V' bn la' ln' lc' need' KL' Ls' → (need', Ls') = ndZ p T u (need5, Ls5) z → ∃ O need1 KL Ls1, LvS W O V' bn la' ln' lc' need1 KL Ls1 ∧ need1.length = tn ∧ Ls1.length ≤ 1 + 1000 * (tn - (i' + 1)) + (k + 1) ∧ (need1, Ls1) = (body.take (k + 1)).foldl (ndZ p T u) (need, Ls) ∧ (nb = false → k + 1 = 0)) := fun O' V' la' ln' lc' need' KL' Ls' h1 h2 => by
    have h3 := ndZ_len p T u (need5, Ls5) z
    rw [← h2] at h3
    refine ⟨O', need', KL', Ls', h1, h3.1.trans HNL5.out, ?_, HSTEP.out _ h2, fun e => by rw [HNBT.out] at e; cases e⟩
    have h4 : Ls'.length ≤ Ls5.length + 1 := h3.2
    omega
  cases zn with
  | true =>
    have HJ := hid_of (HNEX.out _ _ _ _ _ _ _ _ HLV6.out (by unfold ndZ; rw [if_pos HZN.out.symm]))
    clear HNEX HSTEP
    go_wp2_with fail
    refine ⟨rfl, rfl, ⟨rfl, rfl, rfl, rfl, rfl, k + 1, la5, ln5, lc5, by omega, ?_, rfl, HJ⟩, ?_⟩
    · show Value.int .i64 _ = _
      go_num
    · show xn - (intOf (Value.int .i64 _)).toNat < xn - (intOf (G 16)).toNat
      rw [H16.out]
      simp [intOf]; omega
  | false =>
    have hzpn : zp < p.preds.length := by rw [HZP.out]; exact HFIT.out.bp z HZB.out
    obtain ⟨bd', Cd', ed, g1, g2, g3⟩ := HPR.out.2 zp _ (pI_at hzpn)
    have ebd : bd = bd' := by cases ed; rfl
    subst ebd
    obtain ⟨bz, ebz⟩ : ∃ bz, bz = (pI p zp).base := ⟨_, rfl⟩
    have nz1 : nth Cd' (zp * 3 + 1) = some (.bool bz) := by
      rw [ebz]
      exact nth_in (j := 1) g3 (show nth (PredInfo.enc (pI p zp)) 1 = some (.bool (pI p zp).base) from rfl) (by omega)
    have l9 : (zp + 1) * 3 ≤ dn * 3 := Nat.mul_le_mul_right _ (by have := HDN.out; omega)
    have lz1 : zp * 3 + 1 < Cd'.length := by omega
    have z0 : (0 : Int) ≤ (zp : Int) := by omega
    have z1 : (zp : Int) < (dn : Int) := by have := HDN.out; omega
    have z2 : ((zp : Int)).toNat = zp := by omega
    have hbd6 : blk V6 bd = some Cd' := (HLV6.out.ext.blk (blk_lt g1)).trans g1
    have HBZ := hid_of ebz
    clear g1 g2 g3 ed ebz l9 hzpn
    go_upto_region 17 with fail
    repeat go_step
    refine wp_region_held_drew (S := fun W' => blk W' b = some Ce ∧ blk W' bl = some CB ∧ blk W' bd = some Cd') (by kernel_rfl) ⟨hb6, hbl6, hbd6⟩ (fun hHeld => ?_)
    refine wpAnyH_take (i := 0) (oi := ⟨_, _, _, _, _, _⟩) (v := ?_) rfl (by kernel_rfl) (by kernel_rfl) (by kernel_rfl) (fun _ _ _ h => h) (Or.inl ⟨by rfl, ?_⟩) (by assumption) ?_
    rotate_left 1
    · intro W' hSw
      obtain ⟨hS1, hS2, hS3⟩ := hSw
      go_simp
      try with_reducible rfl
    try simp only [Act.put, List.setIfInBounds_toArray, List.set_cons_zero, List.set_cons_succ]
    refine wpAnyH_take (i := 1) (oi := ⟨_, _, _, _, _, _⟩) (v := ?_) rfl (by kernel_rfl) (by kernel_rfl) (by kernel_rfl) (fun _ _ _ h => h) (Or.inl ⟨by rfl, ?_⟩) (by assumption) ?_
    rotate_left 1
    · intro W' hSw
      obtain ⟨hS1, hS2, hS3⟩ := hSw
      go_simp
      try with_reducible rfl
    try simp only [Act.put, List.setIfInBounds_toArray, List.set_cons_zero, List.set_cons_succ]
    refine wpAnyH_take (i := 2) (oi := ⟨_, _, _, _, _, _⟩) (v := ?_) rfl (by kernel_rfl) (by kernel_rfl) (by kernel_rfl) (fun _ _ _ h => h) (Or.inl ⟨by rfl, ?_⟩) (by assumption) ?_
    rotate_left 1
    · intro W' hSw
      obtain ⟨hS1, hS2, hS3⟩ := hSw
      go_simp
      try with_reducible rfl
    try simp only [Act.put, List.setIfInBounds_toArray, List.set_cons_zero, List.set_cons_succ]
    refine wpAnyH_take (i := 3) (oi := ⟨_, _, _, _, _, _⟩) (v := ?_) rfl (by kernel_rfl) (by kernel_rfl) (by kernel_rfl) (fun _ _ _ h => h) (Or.inl ⟨by rfl, ?_⟩) (by assumption) ?_
    rotate_left 1
    · intro W' hSw
      obtain ⟨hS1, hS2, hS3⟩ := hSw
      go_simp
      try with_reducible rfl
    try simp only [Act.put, List.setIfInBounds_toArray, List.set_cons_zero, List.set_cons_succ]
    refine wpAnyH_take (i := 4) (oi := ⟨_, _, _, _, _, _⟩) (v := ?_) rfl (by kernel_rfl) (by kernel_rfl) (by kernel_rfl) (fun _ _ _ h => h) (Or.inl ⟨by rfl, ?_⟩) (by assumption) ?_
    rotate_left 1
    · intro W' hSw
      obtain ⟨hS1, hS2, hS3⟩ := hSw
      go_simp
      try with_reducible rfl
    try simp only [Act.put, List.setIfInBounds_toArray, List.set_cons_zero, List.set_cons_succ]
    refine wpAnyH_take (i := 5) (oi := ⟨_, _, _, _, _, _⟩) (v := ?_) rfl (by kernel_rfl) (by kernel_rfl) (by kernel_rfl) (fun _ _ _ h => h) (Or.inl ⟨by rfl, ?_⟩) (by assumption) ?_
    rotate_left 1
    · intro W' hSw
      obtain ⟨hS1, hS2, hS3⟩ := hSw
      go_simp
      try with_reducible rfl
    try simp only [Act.put, List.setIfInBounds_toArray, List.set_cons_zero, List.set_cons_succ]
    refine wpAnyH_take (i := 6) (oi := ⟨_, _, _, _, _, _⟩) (v := ?_) rfl (by kernel_rfl) (by kernel_rfl) (by kernel_rfl) (fun _ _ _ h => h) (Or.inl ⟨by rfl, ?_⟩) (by assumption) ?_
    rotate_left 1
    · intro W' hSw
      obtain ⟨hS1, hS2, hS3⟩ := hSw
      go_simp
      try with_reducible rfl
    try simp only [Act.put, List.setIfInBounds_toArray, List.set_cons_zero, List.set_cons_succ]
    refine wpAnyH_take (i := 7) (oi := ⟨_, _, _, _, _, _⟩) (v := ?_) rfl (by kernel_rfl) (by kernel_rfl) (by kernel_rfl) (fun _ _ _ h => h) (Or.inl ⟨by rfl, ?_⟩) (by assumption) ?_
    rotate_left 1
    · intro W' hSw
      obtain ⟨hS1, hS2, hS3⟩ := hSw
      go_simp
      try with_reducible rfl
    try simp only [Act.put, List.setIfInBounds_toArray, List.set_cons_zero, List.set_cons_succ]
    refine wpAnyH_take (i := 8) (oi := ⟨_, _, _, _, _, _⟩) (v := ?_) rfl (by kernel_rfl) (by kernel_rfl) (by kernel_rfl) (fun _ _ _ h => h) (Or.inl ⟨by rfl, ?_⟩) (by assumption) ?_
    rotate_left 1
    · intro W' hSw
      obtain ⟨hS1, hS2, hS3⟩ := hSw
      go_simp
      try with_reducible rfl
    try simp only [Act.put, List.setIfInBounds_toArray, List.set_cons_zero, List.set_cons_succ]
    refine wpAnyH_take (i := 9) (oi := ⟨_, _, _, _, _, _⟩) (v := ?_) rfl (by kernel_rfl) (by kernel_rfl) (by kernel_rfl) (fun _ _ _ h => h) (Or.inl ⟨by rfl, ?_⟩) (by assumption) ?_
    rotate_left 1
    · intro W' hSw
      obtain ⟨hS1, hS2, hS3⟩ := hSw
      go_simp
      try with_reducible rfl
    try simp only [Act.put, List.setIfInBounds_toArray, List.set_cons_zero, List.set_cons_succ]
    refine wpAnyH_take (i := 10) (oi := ⟨_, _, _, _, _, _⟩) (v := ?_) rfl (by kernel_rfl) (by kernel_rfl) (by kernel_rfl) (fun _ _ _ h => h) (Or.inl ⟨by rfl, ?_⟩) (by assumption) ?_
    rotate_left 1
    · intro W' hSw
      obtain ⟨hS1, hS2, hS3⟩ := hSw
      go_simp
      try with_reducible rfl
    try simp only [Act.put, List.setIfInBounds_toArray, List.set_cons_zero, List.set_cons_succ]
    refine wpAnyH_take (i := 11) (oi := ⟨_, _, _, _, _, _⟩) (v := ?_) rfl (by kernel_rfl) (by kernel_rfl) (by kernel_rfl) (fun _ _ _ h => h) (Or.inl ⟨by rfl, ?_⟩) (by assumption) ?_
    rotate_left 1
    · intro W' hSw
      obtain ⟨hS1, hS2, hS3⟩ := hSw
      go_simp
      try with_reducible rfl
    try simp only [Act.put, List.setIfInBounds_toArray, List.set_cons_zero, List.set_cons_succ]
    refine wpAnyH_take (i := 12) (oi := ⟨_, _, _, _, _, _⟩) (v := ?_) rfl (by kernel_rfl) (by kernel_rfl) (by kernel_rfl) (fun _ _ _ h => h) (Or.inl ⟨by rfl, ?_⟩) (by assumption) ?_
    rotate_left 1
    · intro W' hSw
      obtain ⟨hS1, hS2, hS3⟩ := hSw
      go_simp
      try with_reducible rfl
    try simp only [Act.put, List.setIfInBounds_toArray, List.set_cons_zero, List.set_cons_succ]
    refine wpAnyH_take (i := 13) (oi := ⟨_, _, _, _, _, _⟩) (v := ?_) rfl (by kernel_rfl) (by kernel_rfl) (by kernel_rfl) (fun _ _ _ h => h) (Or.inl ⟨by rfl, ?_⟩) (by assumption) ?_
    rotate_left 1
    · intro W' hSw
      obtain ⟨hS1, hS2, hS3⟩ := hSw
      go_simp
      try with_reducible rfl
    try simp only [Act.put, List.setIfInBounds_toArray, List.set_cons_zero, List.set_cons_succ]
    refine wpAnyH_done (by kernel_rfl) ?_ _
    clear hHeld
    obtain ⟨V7, eV7⟩ : ∃ V7, V7 = V6.drew := ⟨_, rfl⟩
    rw [← eV7]
    have HLV7 : Hid (LvS W O6 V7 bn la5 ln5 lc5 need5 KL5 Ls5) := by show LvS _ _ _ _ _ _ _ _ _ _; rw [eV7]; exact HLV6.out.drewN 1
    have HXR7 : Hid (Rw encS 1 (core O6 V7) ia xm x) := by show Rw _ _ _ _ _ _; rw [eV7]; exact HXR.out
    have hbn7 : blk V7 bn = some NC := by rw [eV7]; exact hbn6
    have hfn7 : free V7 bn = true := by rw [eV7]; exact hfn6
    have hbl7 : blk V7 bl = some CB := by rw [eV7]; exact hbl6
    clear eV7 hb6 hbn6 hfn6 hbl6 ht6 hbd6 HLV6 HXR
    cases bz with
    | false =>
      obtain ⟨j, hj, hjn⟩ := HPLC.out z HZB.out HZN.out.symm (by rw [← HZP.out]; exact HBZ.out.symm)
      rw [← HXE.out, ← HZP.out] at hj
      rw [HTL.out] at hjn
      have hpl := place_any V7 (some ⟨bt, 0, none⟩) tn tc (by omega) T (HT.out.sub (Sub.ext HLV7.out.ext)) (fun s hs => Nat.le_trans (HH.out.t4 s hs) (by decide)) zp ia xm ic x (HXR7.out.sub (Sub.core _ _))
      rw [hj] at hpl
      have HND : Hid ((need5.set j true, Ls5) = ndZ p T u (need5, Ls5) z) := by
        show _ = _
        unfold ndZ
        rw [if_neg (by rw [← HZN.out]; decide), ← HZP.out, if_pos HBZ.out.symm, ← HXE.out, hj, Int.toNat_natCast]
      have hjl : j < NC.length := by omega
      have hjl1 : j + 1 ≤ NC.length := by omega
      have j0 : (0 : Int) ≤ (j : Int) := by omega
      have j1 : (j : Int) < (tn : Int) := by omega
      have j2 : ((j : Int)).toNat = j := by omega
      have HSP : Hid (splice NC j [.bool true] = bolC (need5.set j true)) := by show _ = _; rw [HNC.out]; exact bolC_set true (by rw [HNL5.out]; exact hjn)
      clear hj
      go_wp2_with fail
      refine hpl.mono ?_
      rintro e V8 ⟨rfl, k8, e8⟩
      dsimp only
      have hbn8 : blk V8 bn = some NC := by rw [e8, blk_drewN]; exact hbn7
      have hfn8 : free V8 bn = true := by rw [e8, free_drewN]; exact hfn7
      have HJ : Hid (∃ O need1 KL Ls1, LvS W O (put V8 bn (splice NC j [.bool true])) bn la5 ln5 lc5 need1 KL Ls1 ∧ need1.length = tn ∧ Ls1.length ≤ 1 + 1000 * (tn - (i' + 1)) + (k + 1) ∧ (need1, Ls1) = (body.take (k + 1)).foldl (ndZ p T u) (need, Ls) ∧ (nb = false → k + 1 = 0)) := by
        show ∃ O need1 KL Ls1, _
        rw [HSP.out, e8]
        exact HNEX.out _ _ _ _ _ _ _ _ ((HLV7.out.drewN k8).set _ List.length_set) HND.out
      clear hpl e8 hbn7 hfn7 HNEX HSTEP
      go_wp2_with fail
      refine ⟨rfl, rfl, ⟨rfl, rfl, rfl, rfl, rfl, k + 1, la5, ln5, lc5, by omega, ?_, rfl, HJ⟩, ?_⟩
      · show Value.int .i64 _ = _
        go_num
      · show xn - (intOf (Value.int .i64 _)).toNat < xn - (intOf (G 16)).toNat
        rw [H16.out]
        simp [intOf]; omega
    | true =>
      have hLn : Ls5.length = ln5 := HLV7.out.n
      have hpl := place_any V7 la5 ln5 lc5 (by omega) Ls5 HLV7.out.steps (fun s hs => Nat.le_trans (HLV7.out.sh s hs) (by decide)) zp ia xm ic x (HXR7.out.sub (Sub.core _ _))
      obtain ⟨pl, epl⟩ : ∃ pl, pl = plcF Ls5 zp x := ⟨_, rfl⟩
      rw [← epl] at hpl
      have HPL := hid_of epl
      have HND : Hid (ndZ p T u (need5, Ls5) z = if pl < 0 then (need5, Ls5 ++ [⟨zp, x, 0, []⟩]) else (need5, Ls5)) := by
        show _ = _
        unfold ndZ
        rw [if_neg (by rw [← HZN.out]; decide), ← HZP.out, if_neg (by rw [← HBZ.out]; decide), ← HXE.out, ← HPL.out]
      clear epl
      go_wp2_with fail
      refine hpl.mono ?_
      rintro e V8 ⟨rfl, k8, e8⟩
      dsimp only
      have HLV8 : Hid (LvS W O6 V8 bn la5 ln5 lc5 need5 KL5 Ls5) := by show LvS _ _ _ _ _ _ _ _ _ _; rw [e8]; exact HLV7.out.drewN k8
      have HXR8 : Hid (Rw encS 1 (core O6 V8) ia xm x) := by show Rw _ _ _ _ _ _; rw [e8]; exact HXR7.out.sub (fun b9 C9 h9 => by
        obtain ⟨m1, m2⟩ := core_blk h9
        exact blk_core (by rw [blk_drewN]; exact m1) m2)
      have hbl8 : blk V8 bl = some CB := by rw [e8, blk_drewN]; exact hbl7
      clear hpl e8 hbn7 hfn7 hbl7 HLV7 HXR7
      by_cases hpl0 : pl < 0
      · obtain ⟨la9, lc9, V9, hrun, hL9, -⟩ := HLV8.out.app ⟨(zp : Int), ⟨ia, xm, ic⟩, 0, ⟨none, 0, 0⟩⟩ ⟨zp, x, 0, []⟩ ⟨rfl, rfl, HXR8.out, ⟨rfl, fun i x hx => by simp at hx⟩⟩ HXM4.out (by omega) #[.int .i64 (zp : Int), .slice ia xm ic, .int .i64 0, .slice none 0 0] rfl
        have HJ := hid_of (HNEX.out _ _ _ _ _ _ _ _ hL9 (by rw [HND.out, if_pos hpl0]))
        clear hL9 HNEX HSTEP
        go_wp2_with (at_builtin; refine wpList_append_run rfl _ _ 53 rfl _ _ _ _ rfl rfl hrun ?_)
        refine ⟨rfl, rfl, ⟨rfl, rfl, rfl, rfl, rfl, k + 1, la9, ln5 + 1, lc9, by omega, ?_, rfl, HJ⟩, ?_⟩
        · show Value.int .i64 _ = _
          go_num
        · show xn - (intOf (Value.int .i64 _)).toNat < xn - (intOf (G 16)).toNat
          rw [H16.out]
          simp [intOf]; omega
      · have HJ := hid_of (HNEX.out _ _ _ _ _ _ _ _ HLV8.out (by rw [HND.out, if_neg hpl0]))
        have hpl1 : 0 ≤ pl := by omega
        clear HNEX HSTEP
        go_wp2_with fail
        refine ⟨rfl, rfl, ⟨rfl, rfl, rfl, rfl, rfl, k + 1, la5, ln5, lc5, by omega, ?_, rfl, HJ⟩, ?_⟩
        · show Value.int .i64 _ = _
          go_num
        · show xn - (intOf (Value.int .i64 _)).toNat < xn - (intOf (G 16)).toNat
          rw [H16.out]
          simp [intOf]; omega
end Go.Proofs.Qxb6500787aGreat
