
import Derived.Test.Qxb6500787aGreatTe
import Derived.StillTailTactics
import Derived.Deep.QuietTactic
import Derived.BigQuiet
import Derived.Deep.RegionHeld
import Derived.Deep.CutRange
import Derived.Laws.ResultCell
import Derived.Laws.Rows
import Derived.DeepKeys
import Derived.DataBytes
import Derived.Laws.StructEq
import Derived.Laws.AppendOwn
import Derived.Laws.MakeOwn
import Derived.Lib.AppendStr
set_option linter.unusedSimpArgs false
set_option linter.unusedVariables false
namespace Go.Proofs.Qxb6500787aGreat
open Go.RowKit Go.Blk
attribute [local go_sem ↓] execOp_load execOp_store execOp_alloc
attribute [local go_sem] Tryz.ld26 Tryz.st26 Tryz.ld27 Tryz.st27 Tryz.ld28 Tryz.st28 Tryz.ld3 Tryz.st3 Tryz.ld29 Tryz.st29 Tryz.ld44 Tryz.st44 Tryz.ld4 Tryz.st4 Tryz.ld50 Tryz.st50 Tryz.ld32 Tryz.st32 Tryz.ld49 Tryz.st49 Tryz.ld68 Tryz.st68 Tryz.ld9 Tryz.st9 Tryz.ld40 Tryz.st40 Tryz.ld138 Tryz.st138 Tryz.ld139 Tryz.st139 Tryz.ld146 Tryz.st146 Tryz.ld183 Tryz.st183 Tryz.ld184 Tryz.st184 Tryz.ld192 Tryz.st192 Tryz.ld195 Tryz.st195 Tryz.ld217 Tryz.st217 Tryz.ld159 Tryz.st159 Tryz.ld142 Tryz.st142 Tryz.ld2 Tryz.st2 Tryz.ld5 Tryz.st5 Tryz.ld12 Tryz.st12 Tryz.ld21 Tryz.st21 Tryz.ld22 Tryz.st22 Tryz.ld24 Tryz.st24 Tryz.ld58 Tryz.st58 Tryz.ld97 Tryz.st97 Tryz.ld101 Tryz.st101 Tryz.ld116 Tryz.st116 Tryz.ld121 Tryz.st121 Tryz.ld135 Tryz.st135 Tryz.ld136 Tryz.st136 Tryz.ld143 Tryz.st143 Tryz.ld148 Tryz.st148 Tryz.ld154 Tryz.st154 Tryz.ld173 Tryz.st173 Tryz.ld187 Tryz.st187 Tryz.ld222 Tryz.st222 Tryz.ld241 Tryz.st241 Tryz.ld248 Tryz.st248 Tryz.ld268 Tryz.st268 Tryz.ld272 Tryz.st272 Tryz.ld153 Tryz.st153 Tryz.ld255 Tryz.st255 Tryz.ld256 Tryz.st256 Tryz.ld129 Tryz.st129 Tryz.ld152 Tryz.st152 Tryz.ld31 Tryz.st31 Tryz.ld46 Tryz.st46 Tryz.ld52 Tryz.st52 Tryz.ld54 Tryz.st54 Tryz.ld60 Tryz.st60 Tryz.ld70 Tryz.st70 Tryz.ld74 Tryz.st74 Tryz.ld93 Tryz.st93 Tryz.ld141 Tryz.st141 Tryz.ld151 Tryz.st151 Tryz.ld170 Tryz.st170 Tryz.ld186 Tryz.st186 Tryz.ld189 Tryz.st189 Tryz.ld194 Tryz.st194 Tryz.ld197 Tryz.st197 Tryz.ld219 Tryz.st219 Tryz.ld224 Tryz.st224 Tryz.ld230 Tryz.st230 Tryz.ld235 Tryz.st235 Tryz.ld243 Tryz.st243 Tryz.ld247 Tryz.st247 Tryz.ld252 Tryz.st252 Tryz.ld258 Tryz.st258 Tryz.al153 Tryz.al255 Tryz.al256 Tryz.al129 Tryz.al152 Tryz.al31 Tryz.al46 Tryz.al52 Tryz.al54 Tryz.al60 Tryz.al70 Tryz.al74 Tryz.al93 Tryz.al141 Tryz.al151 Tryz.al170 Tryz.al186 Tryz.al189 Tryz.al194 Tryz.al197 Tryz.al219 Tryz.al224 Tryz.al230 Tryz.al235 Tryz.al243 Tryz.al247 Tryz.al252 Tryz.al258
attribute [local go_sem] Request.length_enc Request.ok_enc Request.all_get Request.all_set Request.kind_get Request.kind_set Request.blob_get Request.blob_set Request.items_get Request.items_set Request.pred_get Request.pred_set Request.slots_get Request.slots_set Trace.length_enc Trace.ok_enc Trace.all_get Trace.all_set Trace.op_get Trace.op_set Trace.calls_get Trace.calls_set Item.length_enc Item.ok_enc Item.all_get Item.all_set Item.del_get Item.del_set Item.pred_get Item.pred_set Item.args_get Item.args_set Reply.length_enc Reply.ok_enc Reply.all_get Reply.all_set Reply.code_get Reply.code_set Reply.kind_get Reply.kind_set Reply.index_get Reply.index_set Reply.yes_get Reply.yes_set Reply.preds_get Reply.preds_set Reply.rules_get Reply.rules_set Reply.arity_get Reply.arity_set Reply.rows_get Reply.rows_set Reply.fact_get Reply.fact_set Reply.fact_del_get Reply.fact_del_set Reply.fact_pred_get Reply.fact_pred_set Reply.fact_args_get Reply.fact_args_set GEntry.length_enc GEntry.ok_enc GEntry.all_get GEntry.all_set GEntry.seq_get GEntry.seq_set GEntry.kind_get GEntry.kind_set GEntry.code_get GEntry.code_set GOp.length_enc GOp.ok_enc GOp.all_get GOp.all_set GOp.kind_get GOp.kind_set GOp.raw_get GOp.raw_set Reader.length_enc Reader.ok_enc Reader.all_get Reader.all_set Reader.buf_get Reader.buf_set Reader.at__get Reader.at__set Slot.length_enc Slot.ok_enc Slot.all_get Slot.all_set Slot.bound_get Slot.bound_set Slot.name_get Slot.name_set Session.length_enc Session.ok_enc Session.all_get Session.all_set Session.svc_get Session.svc_set Session.buf_get Session.buf_set Session.closed_get Session.closed_set GProgram.length_enc GProgram.ok_enc GProgram.all_get GProgram.all_set GProgram.pool_get GProgram.pool_set GProgram.preds_get GProgram.preds_set GProgram.rules_get GProgram.rules_set GProgram.strata_get GProgram.strata_set PredInfo.length_enc PredInfo.ok_enc PredInfo.all_get PredInfo.all_set PredInfo.arity_get PredInfo.arity_set PredInfo.base_get PredInfo.base_set PredInfo.stratum_get PredInfo.stratum_set Change.length_enc Change.ok_enc Change.all_get Change.all_set Change.del_get Change.del_set Change.pred_get Change.pred_set Change.t_get Change.t_set Store.length_enc Store.ok_enc Store.all_get Store.all_set Store.names_get Store.names_set Store.arity_get Store.arity_set Store.rows_get Store.rows_set Src.length_enc Src.ok_enc Src.all_get Src.all_set Src.b_get Src.b_set Src.at__get Src.at__set Atom.length_enc Atom.ok_enc Atom.all_get Atom.all_set Atom.pred_get Atom.pred_set Atom.args_get Atom.args_set GRule.length_enc GRule.ok_enc GRule.all_get GRule.all_set GRule.head_get GRule.head_set GRule.body_get GRule.body_set GRule.head_pred_get GRule.head_pred_set GRule.head_args_get GRule.head_args_set Cert.length_enc Cert.ok_enc Cert.all_get Cert.all_set Cert.names_get Cert.names_set Cert.nodes_get Cert.nodes_set Fact.length_enc Fact.ok_enc Fact.all_get Fact.all_set Fact.pred_get Fact.pred_set Fact.t_get Fact.t_set Literal.length_enc Literal.ok_enc Literal.all_get Literal.all_set Literal.neg_get Literal.neg_set Literal.atom_get Literal.atom_set Literal.atom_pred_get Literal.atom_pred_set Literal.atom_args_get Literal.atom_args_set Engine.length_enc Engine.ok_enc Engine.all_get Engine.all_set Engine.prog_get Engine.prog_set Engine.st_get Engine.st_set SrcCertm.length_enc SrcCertm.ok_enc SrcCertm.all_get SrcCertm.all_set SrcCertm.b_get SrcCertm.b_set SrcCertm.at__get SrcCertm.at__set GNode.length_enc GNode.ok_enc GNode.all_get GNode.all_set GNode.rule_get GNode.rule_set GNode.pred_get GNode.pred_set GNode.vals_get GNode.vals_set GNode.refs_get GNode.refs_set Term.length_enc Term.ok_enc Term.all_get Term.all_set Term.var_get Term.var_set Term.n_get Term.n_set Env.length_enc Env.ok_enc Env.all_get Env.all_set Env.val_get Env.val_set Env.set_get Env.set_set
attribute [local go_sem] size_put size_ext blk_put free_put blk_alloc free_alloc blk_drew free_drew blk_ext free_ext lookOr_some putOr_some segAt_some cellAt_some storeIn_some put_put put_alloc_new length_arr ok_arr_u8 ok_arr_u32 ok_arr_u64 ok_arr_i64 ok_arr_sl cellsV_agg cellsV_int cellsV_bool cellsV_string cellsV_pointer cellsV_slice cellsV_sl ok_int ok_bool ok_string ok_pointer ok_slice ok_sl toList_arr seg_arr set_arr nth_splice nth_splice0 seg_splice seg_splice0 splice_splice splice_splice0 length_splice_if
attribute [local go_sem ↓] execOp_box
attribute [local go_sem] box_run nth_arr_u8 put_arr_u8 blk_drewN free_drewN put_drewN blk_raw free_raw
theorem extends_put {w W : World} (h : w.Extends W) {b : Nat} (hb : w.heap.size ≤ b) (C : List Value) : w.Extends (put W b C) := (Fr.put_new (L := fun _ => False) (O := fun _ => Lab.no) (Fr.of_extends h) hb C).extends (ext_Ext (Ext.refl _)) (fun _ _ h => h)
/-- An atom, plainly. -/
structure PA where
  pred : Nat
  args : List Term
def tA (a : PA) (c : Nat) : Term := a.args.getD c Term.zero
theorem tA_at {a : PA} {c : Nat} (h : c < a.args.length) : a.args[c]? = some (tA a c) := by
  unfold tA
  rw [List.getD_eq_getElem?_getD, List.getElem?_eq_getElem h]; rfl
def eV (e : Env) (i : Nat) : Int := e.val.toList.getD i 0
def eS (e : Env) (i : Nat) : Bool := e.set.toList.getD i false
def eU (e : Env) (i : Nat) (x : Int) : Env := if h : i < 32 then ⟨e.val.set i x h, e.set.set i true h⟩ else e
theorem eV_at (e : Env) {i : Nat} (h : i < 32) : eV e i = e.val[i] := by
  unfold eV
  rw [List.getD_eq_getElem?_getD, List.getElem?_eq_getElem (by simp; omega)]; simp
theorem eS_at (e : Env) {i : Nat} (h : i < 32) : eS e i = e.set[i] := by
  unfold eS
  rw [List.getD_eq_getElem?_getD, List.getElem?_eq_getElem (by simp; omega)]; simp
theorem env_v (e : Env) {i : Nat} (h : i < 32) : nth e.enc i = some (.int .i64 (eV e i)) := by
  have := Env.val_at e i h
  rw [Nat.zero_add] at this
  rw [this, eV_at e h]
theorem env_s (e : Env) {i : Nat} (h : i < 32) : nth e.enc (32 + i) = some (.bool (eS e i)) := by rw [Env.set_at e i h, eS_at e h]
theorem env_put (e : Env) {i : Nat} (h : i < 32) (x : Int) : splice (splice e.enc i [.int .i64 x]) (32 + i) [.bool true] = (eU e i x).enc := by
  have h1 := Env.val_put e i x h
  rw [Nat.zero_add] at h1
  rw [h1, Env.set_put _ i true h]
  unfold eU
  rw [dif_pos h]
theorem eV_eU (e : Env) {i : Nat} (h : i < 32) (x : Int) (j : Nat) : eV (eU e i x) j = if j = i then x else eV e j := by
  unfold eU
  rw [dif_pos h]
  unfold eV
  simp only [List.getD_eq_getElem?_getD, Vector.toList_set, List.getElem?_set]
  by_cases hij : i = j
  · subst hij; simp [h]
  · rw [if_neg hij, if_neg (fun e => hij e.symm)]
theorem eS_eU (e : Env) {i : Nat} (h : i < 32) (x : Int) (j : Nat) : eS (eU e i x) j = if j = i then true else eS e j := by
  unfold eU
  rw [dif_pos h]
  unfold eS
  simp only [List.getD_eq_getElem?_getD, Vector.toList_set, List.getElem?_set]
  by_cases hij : i = j
  · subst hij; simp [h]
  · rw [if_neg hij, if_neg (fun e => hij e.symm)]
/-- A term's value under an environment. -/
def valT (e : Env) (t : Term) : Int := if t.var then eV e t.n.toNat else t.n
/-- The first c columns of an atom under an environment. -/
def gT (a : PA) (e : Env) (c : Nat) : Tup := Vector.ofFn fun i => if i.val < c then valT e (tA a i.val) else 0
theorem tg_gT (a : PA) (e : Env) (c i : Nat) (hi : i < 4) : tg (gT a e c) i = if i < c then valT e (tA a i) else 0 := by
  unfold tg gT
  rw [List.getD_eq_getElem?_getD, List.getElem?_eq_getElem (by simp; omega)]; simp
theorem gT_zero (a : PA) (e : Env) : gT a e 0 = Vector.replicate 4 0 := by
  apply Vector.ext
  intro i hi
  simp [gT]
theorem gT_succ (a : PA) (e : Env) {c : Nat} (hc : c < 4) : (gT a e c).set c (valT e (tA a c)) hc = gT a e (c + 1) := by
  apply Vector.ext
  intro i hi
  rw [Vector.getElem_set]
  simp only [gT, Vector.getElem_ofFn]
  by_cases h : c = i
  · subst h; rw [if_pos rfl, if_pos (by omega)]
  · rw [if_neg h]
    by_cases h2 : i < c
    · rw [if_pos h2, if_pos (by omega)]
    · rw [if_neg h2, if_neg (by omega)]
theorem gT_put (a : PA) (e : Env) {c : Nat} (hc : c < 4) {v : Int} (hv : v = valT e (tA a c)) : splice (arr i64v (gT a e c)) c [.int .i64 v] = arr i64v (gT a e (c + 1)) := by
  rw [put_arr_i64 _ _ hc, hv, gT_succ a e hc]
/-- An atom's columns are in range. -/
def Fit (a : PA) : Prop := a.args.length ≤ 4 ∧ ∀ c, c < a.args.length → 0 ≤ (tA a c).n ∧ ((tA a c).var = true → (tA a c).n < 32) ∧ ((tA a c).var = false → (tA a c).n < 256)
/-- An atom in memory. -/
def AtomC (W : World) (x : Atom) (a : PA) : Prop := x.pred = (a.pred : Int) ∧ Rw Term.enc 2 W x.args.a x.args.len a.args
theorem AtomC.sub {W W' : World} {x : Atom} {a : PA} (h : AtomC W x a) (hs : Sub W W') : AtomC W' x a := ⟨h.1, h.2.sub hs⟩
theorem AtomC.ext {W W' : World} {x : Atom} {a : PA} (h : AtomC W x a) (hs : W.Extends W') : AtomC W' x a := ⟨h.1, h.2.grow hs⟩
theorem term_at {W : World} {x : Atom} {a : PA} (h : AtomC W x a) {c : Nat} (hc : c < a.args.length) : ∃ b C, x.args.a = some ⟨b, 0, none⟩ ∧ blk W b = some C ∧ c * 2 + 1 < C.length ∧ nth C (c * 2) = some (.bool (tA a c).var) ∧ nth C (c * 2 + 1) = some (.int .i64 (tA a c).n) := by
  obtain ⟨b, C, h1, h2, h3, h4⟩ := h.2.2 c _ (tA_at hc)
  have hl := h.2.1
  have h5 : (c + 1) * 2 ≤ x.args.len * 2 := Nat.mul_le_mul_right _ (by omega)
  exact ⟨b, C, h1, h2, by omega, nth_in (j := 0) h4 rfl (by omega), nth_in (j := 1) h4 rfl (by omega)⟩
def grI (W : World) (b2 b3 b4 b5 : Nat) (XE : List Value) (a : PA) (s : Env) (f : Nat → Value) (V : World) : Prop := f 2 = .pointer (some ⟨b2, 0, none⟩) ∧ f 3 = .pointer (some ⟨b3, 0, none⟩) ∧ f 4 = .pointer (some ⟨b4, 0, none⟩) ∧ f 5 = .pointer (some ⟨b5, 0, none⟩) ∧ ∃ c : Nat, c ≤ a.args.length ∧ f 6 = .int .i64 (c : Nat) ∧ Hid (W.Extends V ∧ blk V b2 = some XE ∧ blk V b3 = some s.enc ∧ blk V b4 = some (arr i64v (gT a s 0)) ∧ free V b4 = true ∧ blk V b5 = some (arr i64v (gT a s c)) ∧ free V b5 = true)
set_option maxRecDepth 100000 in
theorem frame40g (f : Nat → Value) : frameN 40 f = #[f 0, f 1, f 2, f 3, f 4, f 5, f 6, f 7, f 8, f 9, f 10, f 11, f 12, f 13, f 14, f 15, f 16, f 17, f 18, f 19, f 20, f 21, f 22, f 23, f 24, f 25, f 26, f 27, f 28, f 29, f 30, f 31, f 32, f 33, f 34, f 35, f 36, f 37, f 38, f 39] := by kernel_rfl
set_option maxRecDepth 20000 in
set_option maxHeartbeats 4000000 in
theorem ground_any (W : World) (x : Atom) (a : PA) (hxa : AtomC W x a) (s : Env) (hf : Fit a) : Calls Tryz.prog 176 #[.agg x.enc.toArray, .agg s.enc.toArray] W fun e W' => e = .returned (.agg (arr i64v (gT a s a.args.length)).toArray) ∧ W.Extends W' := by
  obtain ⟨ha4, hfit⟩ := hf
  have HFIT := hid_of hfit
  have HXA := hid_of hxa
  have x1 : nth x.enc 1 = some (.slice x.args.a x.args.len x.args.cap) := Atom.args_get x
  have hxl : x.args.len = a.args.length := hxa.2.1.symm
  rw [hxl] at x1
  obtain ⟨XE, hXE⟩ : ∃ XE, XE = x.enc := ⟨_, rfl⟩
  have xl : XE.length = 2 := by rw [hXE]; exact Atom.length_enc x
  rw [← hXE] at x1 ⊢
  have y1 : 1 < XE.length := by omega
  clear hfit hxa hXE hxl
  go_enter Tryz.func176, Tryz.ntmps176
  go_upto_region 2 with fail
  refine wp_world (fun V => W.Extends V ∧ blk V W.heap.size = some XE ∧ blk V (W.heap.size + 1) = some s.enc ∧ blk V (W.heap.size + 1 + 1) = some (arr i64v (gT a s 0)) ∧ free V (W.heap.size + 1 + 1) = true ∧ blk V (W.heap.size + 1 + 1 + 1) = some (arr i64v (gT a s 0)) ∧ free V (W.heap.size + 1 + 1 + 1) = true) ?_ ?_
  · rw [gT_zero]
    refine ⟨extends_alloc (extends_alloc (extends_alloc (extends_alloc (ext_Ext (Ext.refl _)) _) _) _) _, ?_, ?_, ?_, ?_, ?_, ?_⟩
    all_goals first
      | (repeat rw [blk_alloc, if_neg (by simp only [World.size_alloc]; omega)]
         rw [blk_alloc, if_pos (by simp only [World.size_alloc])]
         done)
      | (unfold free
         repeat rw [heap_alloc, if_neg (by simp only [World.size_alloc]; omega)]
         rw [heap_alloc, if_pos (by simp only [World.size_alloc])]
         rfl)
  intro V1 hV1
  try simp only [World.size_alloc]
  obtain ⟨b2, e_b2⟩ : ∃ b, b = W.heap.size := ⟨_, rfl⟩
  obtain ⟨b3, e_b3⟩ : ∃ b, b = W.heap.size + 1 := ⟨_, rfl⟩
  obtain ⟨b4, e_b4⟩ : ∃ b, b = W.heap.size + 1 + 1 := ⟨_, rfl⟩
  obtain ⟨b5, e_b5⟩ : ∃ b, b = W.heap.size + 1 + 1 + 1 := ⟨_, rfl⟩
  rw [← e_b5] at hV1 ⊢
  rw [← e_b4] at hV1 ⊢
  rw [← e_b3] at hV1 ⊢
  rw [← e_b2] at hV1 ⊢
  have hn_b2 : W.heap.size ≤ b2 := by omega
  have n_b2_b3 : ¬ b2 = b3 := by omega
  have n_b3_b2 : ¬ b3 = b2 := by omega
  have n_b2_b4 : ¬ b2 = b4 := by omega
  have n_b4_b2 : ¬ b4 = b2 := by omega
  have n_b2_b5 : ¬ b2 = b5 := by omega
  have n_b5_b2 : ¬ b5 = b2 := by omega
  have hn_b3 : W.heap.size ≤ b3 := by omega
  have n_b3_b4 : ¬ b3 = b4 := by omega
  have n_b4_b3 : ¬ b4 = b3 := by omega
  have n_b3_b5 : ¬ b3 = b5 := by omega
  have n_b5_b3 : ¬ b5 = b3 := by omega
  have hn_b4 : W.heap.size ≤ b4 := by omega
  have n_b4_b5 : ¬ b4 = b5 := by omega
  have n_b5_b4 : ¬ b5 = b4 := by omega
  have hn_b5 : W.heap.size ≤ b5 := by omega
  clear e_b2 e_b3 e_b4 e_b5
  have H1 := hid_of hV1
  clear hV1
  go_wp2_with fail
  refine wp_loop_f 40 (grI W b2 b3 b4 b5 XE a s) (fun f _ => a.args.length - (intOf (f 6)).toNat) rfl ⟨rfl, rfl, rfl, rfl, 0, by omega, rfl, H1⟩ ?_
  clear H1
  intro F V hrel
  obtain ⟨f2, f3, f4, f5, c, hc, f6, HV⟩ := hrel
  have H6 := hid_of f6
  rw [frame40g, f2, f3, f4, f5, f6]
  clear f2 f3 f4 f5 f6
  obtain ⟨hx, hb2, hb3, hb4, hf4, hb5, hf5⟩ := HV.out
  by_cases hin : c < a.args.length
  · have hin' : (c : Int) < (a.args.length : Int) := by omega
    have h4 : c < 4 := by omega
    have p0 : (0 : Int) ≤ (c : Int) := by omega
    have p1 : (c : Int) < 4 := by omega
    have p2 : ((c : Int)).toNat = c := by omega
    obtain ⟨r0, r1, r2⟩ := HFIT.out c hin
    obtain ⟨bt, Ct, t1, t2, t3, hv, hn⟩ := term_at (HXA.out.ext hx) hin
    rw [t1] at x1
    have t4 : c * 2 < Ct.length := by omega
    have hput := fun v hv => gT_put a s h4 (v := v) hv
    obtain ⟨tm, htm⟩ : ∃ tm, tm = tA a c := ⟨_, rfl⟩
    rw [← htm] at hv hn r0 r1 r2 hput
    obtain ⟨vb, hvb⟩ : ∃ vb, vb = tm.var := ⟨_, rfl⟩
    obtain ⟨vn, hvn⟩ : ∃ vn, vn = tm.n := ⟨_, rfl⟩
    rw [← hvb] at hv r1 r2
    rw [← hvn] at hn r0 r1 r2
    have hval : valT s tm = if vb then eV s vn.toNat else vn := by unfold valT; rw [← hvb, ← hvn]
    rw [hval] at hput
    obtain ⟨T1, hT1⟩ : ∃ T1, T1 = gT a s (c + 1) := ⟨_, rfl⟩
    obtain ⟨T0, hT0⟩ : ∃ T0, T0 = gT a s c := ⟨_, rfl⟩
    rw [← hT1, ← hT0] at hput
    rw [← hT0] at hb5
    have HV' : Hid (W.Extends (put V b5 (arr i64v T1)) ∧ blk (put V b5 (arr i64v T1)) b2 = some XE ∧ blk (put V b5 (arr i64v T1)) b3 = some s.enc ∧ blk (put V b5 (arr i64v T1)) b4 = some (arr i64v (gT a s 0)) ∧ free (put V b5 (arr i64v T1)) b4 = true ∧ blk (put V b5 (arr i64v T1)) b5 = some (arr i64v (gT a s (c + 1))) ∧ free (put V b5 (arr i64v T1)) b5 = true) := by
      refine ⟨extends_put hx hn_b5 _, by rw [blk_put, if_neg n_b2_b5]; exact hb2, by rw [blk_put, if_neg n_b3_b5]; exact hb3, by rw [blk_put, if_neg n_b4_b5]; exact hb4, by rw [free_put]; exact hf4, ?_, by rw [free_put]; exact hf5⟩
      rw [blk_put, if_pos rfl, hb5, hT1]; rfl
    cases vb
    · have hp := hput vn (by simp)
      clear hput hval HV htm hvb hvn hT0 hT1 hx HFIT hb4 hf4 t1 HXA
      go_wp2_with fail
      refine ⟨rfl, rfl, ⟨rfl, rfl, rfl, rfl, c + 1, by omega, ?_, HV'⟩, ?_⟩
      · show Value.int .i64 _ = _
        go_num
      · show a.args.length - (intOf (Value.int .i64 _)).toNat < a.args.length - (intOf (F 6)).toNat
        rw [H6.out]
        simp [intOf]; omega
    · have r1' := r1 rfl
      obtain ⟨vi, rfl⟩ : ∃ vi : Nat, vn = (vi : Int) := ⟨vn.toNat, by omega⟩
      have h32 : vi < 32 := by omega
      have hev := env_v s h32
      have hp := hput (eV s vi) (by simp)
      clear hput hval HV htm hvb hvn hT0 hT1 hx HFIT hb4 hf4 t1 HXA
      go_wp2_with fail
      refine ⟨rfl, rfl, ⟨rfl, rfl, rfl, rfl, c + 1, by omega, ?_, HV'⟩, ?_⟩
      · show Value.int .i64 _ = _
        go_num
      · show a.args.length - (intOf (Value.int .i64 _)).toNat < a.args.length - (intOf (F 6)).toNat
        rw [H6.out]
        simp [intOf]; omega
  · obtain rfl : c = a.args.length := by omega
    have hin' : ¬ ((a.args.length : Int) < (a.args.length : Int)) := by omega
    have HX : Hid (W.Extends (put V b4 (arr i64v (gT a s a.args.length)))) := extends_put hx hn_b4 _
    have HB : Hid (blk (put V b4 (arr i64v (gT a s a.args.length))) b4 = some (arr i64v (gT a s a.args.length))) := by
      show blk _ _ = _
      rw [blk_put, if_pos rfl, hb4]; rfl
    obtain ⟨T, hT⟩ : ∃ T, T = gT a s a.args.length := ⟨_, rfl⟩
    obtain ⟨T0, hT0⟩ : ∃ T0, T0 = gT a s 0 := ⟨_, rfl⟩
    have HT := hid_of hT
    rw [← hT] at HX HB hb5
    rw [← hT0] at hb4
    clear HV hT hT0 hx HFIT
    go_wp2_with fail
    refine ret_cell (C := arr i64v T) rfl rfl HB.out (by kernel_rfl) (by rw [length_arr]; kernel_rfl) rfl ?_
    exact ⟨by rw [HT.out], HX.out⟩
/-- One column of unify. -/
def uniS (a : PA) (row : Tup) (c : Nat) (e : Env) : Option Env :=
  if (tA a c).var then (if eS e (tA a c).n.toNat = true ∧ ¬ eV e (tA a c).n.toNat = tg row c then none else some (eU e (tA a c).n.toNat (tg row c)))
  else if (tA a c).n = tg row c then some e else none
def uniF (a : PA) (row : Tup) : Nat → Env → Option Env
  | 0, e => some e
  | c + 1, e => (uniF a row c e).bind (uniS a row c)
theorem uniF_none {a : PA} {row : Tup} {c : Nat} {e : Env} (h : uniF a row c e = none) : ∀ d, c ≤ d → uniF a row d e = none := by
  intro d hd
  induction d with
  | zero => rw [Nat.le_zero.1 hd] at h; exact h
  | succ d ih =>
    by_cases hc : c = d + 1
    · rw [← hc]; exact h
    · show (uniF a row d e).bind _ = none
      rw [ih (by omega)]; rfl
def UniPost (W : World) (r : Option Env) (e : Ending) (W' : World) : Prop := ∃ s' : Env, e = .returned (.tuple #[.agg s'.enc.toArray, .bool r.isSome]) ∧ (∀ x, r = some x → s' = x) ∧ W.Extends W'
def unI (W : World) (b3 b4 b5 b6 : Nat) (XE : List Value) (a : PA) (row : Tup) (s : Env) (f : Nat → Value) (V : World) : Prop := f 3 = .pointer (some ⟨b3, 0, none⟩) ∧ f 4 = .pointer (some ⟨b4, 0, none⟩) ∧ f 5 = .pointer (some ⟨b5, 0, none⟩) ∧ f 6 = .pointer (some ⟨b6, 0, none⟩) ∧ ∃ (c : Nat) (e : Env), c ≤ a.args.length ∧ f 8 = .int .i64 (c : Nat) ∧ Hid (uniF a row c s = some e) ∧ Hid (W.Extends V ∧ blk V b3 = some XE ∧ blk V b4 = some (arr i64v row) ∧ blk V b5 = some e.enc ∧ free V b5 = true ∧ blk V b6 = some Env.zero.enc ∧ free V b6 = true)
set_option maxRecDepth 100000 in
theorem frame61u (f : Nat → Value) : frameN 61 f = #[f 0, f 1, f 2, f 3, f 4, f 5, f 6, f 7, f 8, f 9, f 10, f 11, f 12, f 13, f 14, f 15, f 16, f 17, f 18, f 19, f 20, f 21, f 22, f 23, f 24, f 25, f 26, f 27, f 28, f 29, f 30, f 31, f 32, f 33, f 34, f 35, f 36, f 37, f 38, f 39, f 40, f 41, f 42, f 43, f 44, f 45, f 46, f 47, f 48, f 49, f 50, f 51, f 52, f 53, f 54, f 55, f 56, f 57, f 58, f 59, f 60] := by kernel_rfl
set_option maxRecDepth 20000 in
set_option maxHeartbeats 4000000 in
theorem unify_any (W : World) (x : Atom) (a : PA) (hxa : AtomC W x a) (row : Tup) (s : Env) (hf : Fit a) : Calls Tryz.prog 175 #[.agg x.enc.toArray, .agg (arr i64v row).toArray, .agg s.enc.toArray] W (UniPost W (uniF a row a.args.length s)) := by
  obtain ⟨ha4, hfit⟩ := hf
  have HFIT := hid_of hfit
  have HXA := hid_of hxa
  have x1 : nth x.enc 1 = some (.slice x.args.a x.args.len x.args.cap) := Atom.args_get x
  have hxl : x.args.len = a.args.length := hxa.2.1.symm
  rw [hxl] at x1
  obtain ⟨XE, hXE⟩ : ∃ XE, XE = x.enc := ⟨_, rfl⟩
  have xl : XE.length = 2 := by rw [hXE]; exact Atom.length_enc x
  rw [← hXE] at x1 ⊢
  have y1 : 1 < XE.length := by omega
  obtain ⟨Q, hQ⟩ : ∃ Q, Q = UniPost W (uniF a row a.args.length s) := ⟨_, rfl⟩
  rw [← hQ]
  have HQ := hid_of hQ
  clear hfit hQ hxa hXE hxl
  go_enter Tryz.func175, Tryz.ntmps175
  go_upto_region 1 with fail
  refine wp_world (fun V => W.Extends V ∧ blk V W.heap.size = some XE ∧ blk V (W.heap.size + 1) = some (arr i64v row) ∧ blk V (W.heap.size + 1 + 1) = some s.enc ∧ free V (W.heap.size + 1 + 1) = true ∧ blk V (W.heap.size + 1 + 1 + 1) = some Env.zero.enc ∧ free V (W.heap.size + 1 + 1 + 1) = true) ?_ ?_
  · refine ⟨extends_alloc (extends_alloc (extends_alloc (extends_alloc (ext_Ext (Ext.refl _)) _) _) _) _, ?_, ?_, ?_, ?_, ?_, ?_⟩
    all_goals first
      | (repeat rw [blk_alloc, if_neg (by simp only [World.size_alloc]; omega)]
         rw [blk_alloc, if_pos (by simp only [World.size_alloc])]
         done)
      | (unfold free
         repeat rw [heap_alloc, if_neg (by simp only [World.size_alloc]; omega)]
         rw [heap_alloc, if_pos (by simp only [World.size_alloc])]
         rfl)
  intro V1 hV1
  try simp only [World.size_alloc]
  obtain ⟨b3, e_b3⟩ : ∃ b, b = W.heap.size := ⟨_, rfl⟩
  obtain ⟨b4, e_b4⟩ : ∃ b, b = W.heap.size + 1 := ⟨_, rfl⟩
  obtain ⟨b5, e_b5⟩ : ∃ b, b = W.heap.size + 1 + 1 := ⟨_, rfl⟩
  obtain ⟨b6, e_b6⟩ : ∃ b, b = W.heap.size + 1 + 1 + 1 := ⟨_, rfl⟩
  rw [← e_b6] at hV1 ⊢
  rw [← e_b5] at hV1 ⊢
  rw [← e_b4] at hV1 ⊢
  rw [← e_b3] at hV1 ⊢
  have hn_b3 : W.heap.size ≤ b3 := by omega
  have n_b3_b4 : ¬ b3 = b4 := by omega
  have n_b4_b3 : ¬ b4 = b3 := by omega
  have n_b3_b5 : ¬ b3 = b5 := by omega
  have n_b5_b3 : ¬ b5 = b3 := by omega
  have n_b3_b6 : ¬ b3 = b6 := by omega
  have n_b6_b3 : ¬ b6 = b3 := by omega
  have hn_b4 : W.heap.size ≤ b4 := by omega
  have n_b4_b5 : ¬ b4 = b5 := by omega
  have n_b5_b4 : ¬ b5 = b4 := by omega
  have n_b4_b6 : ¬ b4 = b6 := by omega
  have n_b6_b4 : ¬ b6 = b4 := by omega
  have hn_b5 : W.heap.size ≤ b5 := by omega
  have n_b5_b6 : ¬ b5 = b6 := by omega
  have n_b6_b5 : ¬ b6 = b5 := by omega
  have hn_b6 : W.heap.size ≤ b6 := by omega
  clear e_b3 e_b4 e_b5 e_b6
  have H1 := hid_of hV1
  clear hV1
  go_wp2_with fail
  refine wp_loop_f 61 (unI W b3 b4 b5 b6 XE a row s) (fun f _ => a.args.length - (intOf (f 8)).toNat) rfl ⟨rfl, rfl, rfl, rfl, 0, s, by omega, rfl, rfl, H1⟩ ?_
  clear H1
  intro F V hrel
  obtain ⟨f3, f4, f5, f6, c, e, hc, f8, HU, HV⟩ := hrel
  have H8 := hid_of f8
  rw [frame61u, f3, f4, f5, f6, f8]
  clear f3 f4 f5 f6 f8
  obtain ⟨hx, hb3, hb4, hb5, hf5, hb6, hf6⟩ := HV.out
  have HEND : Hid (∀ V' (s' : Env) (ok : Bool), blk V' b6 = some Env.zero.enc → W.Extends V' → (ok = (uniF a row a.args.length s).isSome) → (∀ x, uniF a row a.args.length s = some x → s' = x) → Q (.returned (.tuple #[.agg s'.enc.toArray, .bool ok])) (put V' b6 s'.enc) ∧ blk (put V' b6 s'.enc) b6 = some s'.enc) := by
    intro V' s' ok h8 hxx hok hsx
    refine ⟨?_, by rw [blk_put, if_pos rfl, h8]; rfl⟩
    rw [HQ.out]
    exact ⟨s', by rw [hok], hsx, extends_put hxx hn_b6 _⟩
  by_cases hin : c < a.args.length
  rotate_left 1
  · obtain rfl : c = a.args.length := by omega
    have hin' : ¬ ((a.args.length : Int) < (a.args.length : Int)) := by omega
    obtain ⟨hP, hB⟩ := HEND.out V e true hb6 hx (by rw [HU.out]; rfl) (fun x hx => by rw [HU.out] at hx; exact Option.some.inj hx)
    have HP := hid_of hP
    have HB := hid_of hB
    clear HV hx HFIT HEND hP hB HU
    go_wp2_with fail
    refine ret_cell_tmp (C := e.enc) rfl rfl rfl HB.out (by kernel_rfl) (by rw [Env.length_enc]; kernel_rfl) rfl ?_
    exact HP.out
  have hin' : (c : Int) < (a.args.length : Int) := by omega
  have h4 : c < 4 := by omega
  have p0 : (0 : Int) ≤ (c : Int) := by omega
  have p1 : (c : Int) < 4 := by omega
  have p2 : ((c : Int)).toNat = c := by omega
  obtain ⟨r0, r1, r2⟩ := HFIT.out c hin
  obtain ⟨bt, Ct, t1, t2, t3, hv, hn⟩ := term_at (HXA.out.ext hx) hin
  rw [t1] at x1
  have t4 : c * 2 < Ct.length := by omega
  have hrw := nth_t row c h4
  have hs1 : uniF a row (c + 1) s = uniS a row c e := by show (uniF a row c s).bind _ = _; rw [HU.out]; rfl
  have hnone : uniS a row c e = none → uniF a row a.args.length s = none := fun h => uniF_none (hs1.trans h) _ (by omega)
  unfold uniS at hs1 hnone
  obtain ⟨tm, htm⟩ : ∃ tm, tm = tA a c := ⟨_, rfl⟩
  rw [← htm] at hv hn r0 r1 r2 hs1 hnone
  obtain ⟨vb, hvb⟩ : ∃ vb, vb = tm.var := ⟨_, rfl⟩
  obtain ⟨vn, hvn⟩ : ∃ vn, vn = tm.n := ⟨_, rfl⟩
  rw [← hvb] at hv r1 r2 hs1 hnone
  rw [← hvn] at hn r0 r1 r2 hs1 hnone
  obtain ⟨rv, hrv⟩ : ∃ rv, rv = tg row c := ⟨_, rfl⟩
  rw [← hrv] at hrw hs1 hnone
  clear htm hvb hvn hrv HFIT t1 HXA
  have hd : W.Extends V.drew := extends_drew hx
  cases vb
  · by_cases he : vn = rv
    · have HU' : Hid (uniF a row (c + 1) s = some e) := by show _ = _; rw [hs1]; simp [he]
      have HV' := HV
      subst he
      clear HV hx hd HU HEND hs1 hnone hb6 hf6
      go_wp2_with fail
      refine ⟨rfl, rfl, ⟨rfl, rfl, rfl, rfl, c + 1, _, by omega, ?_, HU', HV'⟩, ?_⟩
      · show Value.int .i64 _ = _
        go_num
      · show a.args.length - (intOf (Value.int .i64 _)).toNat < a.args.length - (intOf (F 8)).toNat
        rw [H8.out]
        simp [intOf]; omega
    · have hNo := hnone (by simp [he])
      obtain ⟨hP, hB⟩ := HEND.out V e false hb6 hx (by rw [hNo]; rfl) (fun x hx => by rw [hNo] at hx; cases hx)
      have HP := hid_of hP
      have HB := hid_of hB
      have hnb : (vn == rv) = false := by simp [he]
      clear HV hx hd HU HEND hs1 hnone hP hB hNo
      go_wp2_with fail
      refine ret_cell_tmp (C := e.enc) rfl rfl rfl HB.out (by kernel_rfl) (by rw [Env.length_enc]; kernel_rfl) rfl ?_
      exact HP.out
  · have r1' := r1 rfl
    obtain ⟨vi, rfl⟩ : ∃ vi : Nat, vn = (vi : Int) := ⟨vn.toNat, by omega⟩
    have h32 : vi < 32 := by omega
    have hev := env_v e h32
    have hes := env_s e h32
    have hep := env_put e h32 rv
    have k0 : (0 : Int) ≤ (vi : Int) := by omega
    have k1 : (vi : Int) < 32 := by omega
    have k2 : ((vi : Int)).toNat = vi := by omega
    rw [k2] at hs1 hnone
    obtain ⟨sb, hsb⟩ : ∃ sb, sb = eS e vi := ⟨_, rfl⟩
    obtain ⟨sv, hsv⟩ : ∃ sv, sv = eV e vi := ⟨_, rfl⟩
    rw [← hsb] at hes hs1 hnone
    rw [← hsv] at hev hs1 hnone
    have hb5d : blk V.drew b5 = some e.enc := hb5
    have hf5d : free V.drew b5 = true := hf5
    have hb4d : blk V.drew b4 = some (arr i64v row) := hb4
    by_cases hbad : sb = true ∧ ¬ sv = rv
    · have hNo := hnone (by simp [hbad])
      obtain ⟨hP, hB⟩ := HEND.out V.drew e false hb6 hd (by rw [hNo]; rfl) (fun x hx => by rw [hNo] at hx; cases hx)
      have HP := hid_of hP
      have HB := hid_of hB
      obtain ⟨rfl, hne⟩ := hbad
      have hnb : (sv != rv) = true := by simp [hne]
      have hb6d : blk V.drew b6 = some Env.zero.enc := hb6
      have hf6d : free V.drew b6 = true := hf6
      clear HV hx hd HU HEND hs1 hnone hP hB hNo hsb hsv hep
      go_upto_region 8 with fail
      refine wp_region_held_drew (S := fun W' => blk W' b3 = some XE ∧ blk W' b4 = some (arr i64v row) ∧ blk W' b5 = some e.enc) (by kernel_rfl) ⟨hb3, hb4, hb5⟩ (fun hHeld => ?_)
      refine wpAnyH_take (i := 0) (oi := ⟨_, _, _, _, _, _⟩) (v := ?_) rfl (by kernel_rfl) (by kernel_rfl) (by kernel_rfl) (fun _ _ _ h => h) (Or.inl ⟨by rfl, ?_⟩) (by assumption) ?_
      rotate_left 1
      · intro W' hSw
        obtain ⟨hS1, hS2, hS3⟩ := hSw
        go_simp
        try with_reducible rfl
      try simp only [Act.put, List.setIfInBounds_toArray, List.set_cons_zero, List.set_cons_succ]
      refine wpAnyH_take (i := 1) (oi := ⟨_, _, _, _, _, _⟩) (v := ?_) rfl (by kernel_rfl) (by kernel_rfl) (by kernel_rfl) (fun _ _ _ h => h) (Or.inl ⟨by rfl, ?_⟩) (by assumption) ?_
      rotate_left 1
      · intro W' hSw
        obtain ⟨hS1, hS2, hS3⟩ := hSw
        go_simp
        try with_reducible rfl
      try simp only [Act.put, List.setIfInBounds_toArray, List.set_cons_zero, List.set_cons_succ]
      refine wpAnyH_take (i := 2) (oi := ⟨_, _, _, _, _, _⟩) (v := ?_) rfl (by kernel_rfl) (by kernel_rfl) (by kernel_rfl) (fun _ _ _ h => h) (Or.inl ⟨by rfl, ?_⟩) (by assumption) ?_
      rotate_left 1
      · intro W' hSw
        obtain ⟨hS1, hS2, hS3⟩ := hSw
        go_simp
        try with_reducible rfl
      try simp only [Act.put, List.setIfInBounds_toArray, List.set_cons_zero, List.set_cons_succ]
      refine wpAnyH_take (i := 3) (oi := ⟨_, _, _, _, _, _⟩) (v := ?_) rfl (by kernel_rfl) (by kernel_rfl) (by kernel_rfl) (fun _ _ _ h => h) (Or.inl ⟨by rfl, ?_⟩) (by assumption) ?_
      rotate_left 1
      · intro W' hSw
        obtain ⟨hS1, hS2, hS3⟩ := hSw
        go_simp
        try with_reducible rfl
      try simp only [Act.put, List.setIfInBounds_toArray, List.set_cons_zero, List.set_cons_succ]
      refine wpAnyH_take (i := 4) (oi := ⟨_, _, _, _, _, _⟩) (v := ?_) rfl (by kernel_rfl) (by kernel_rfl) (by kernel_rfl) (fun _ _ _ h => h) (Or.inl ⟨by rfl, ?_⟩) (by assumption) ?_
      rotate_left 1
      · intro W' hSw
        obtain ⟨hS1, hS2, hS3⟩ := hSw
        go_simp
        try with_reducible rfl
      try simp only [Act.put, List.setIfInBounds_toArray, List.set_cons_zero, List.set_cons_succ]
      refine wpAnyH_take (i := 5) (oi := ⟨_, _, _, _, _, _⟩) (v := ?_) rfl (by kernel_rfl) (by kernel_rfl) (by kernel_rfl) (fun _ _ _ h => h) (Or.inl ⟨by rfl, ?_⟩) (by assumption) ?_
      rotate_left 1
      · intro W' hSw
        obtain ⟨hS1, hS2, hS3⟩ := hSw
        go_simp
        try with_reducible rfl
      try simp only [Act.put, List.setIfInBounds_toArray, List.set_cons_zero, List.set_cons_succ]
      refine wpAnyH_take (i := 6) (oi := ⟨_, _, _, _, _, _⟩) (v := ?_) rfl (by kernel_rfl) (by kernel_rfl) (by kernel_rfl) (fun _ _ _ h => h) (Or.inl ⟨by rfl, ?_⟩) (by assumption) ?_
      rotate_left 1
      · intro W' hSw
        obtain ⟨hS1, hS2, hS3⟩ := hSw
        go_simp
        try with_reducible rfl
      try simp only [Act.put, List.setIfInBounds_toArray, List.set_cons_zero, List.set_cons_succ]
      refine wpAnyH_take (i := 7) (oi := ⟨_, _, _, _, _, _⟩) (v := ?_) rfl (by kernel_rfl) (by kernel_rfl) (by kernel_rfl) (fun _ _ _ h => h) (Or.inl ⟨by rfl, ?_⟩) (by assumption) ?_
      rotate_left 1
      · intro W' hSw
        obtain ⟨hS1, hS2, hS3⟩ := hSw
        go_simp
        try with_reducible rfl
      try simp only [Act.put, List.setIfInBounds_toArray, List.set_cons_zero, List.set_cons_succ]
      refine wpAnyH_take (i := 8) (oi := ⟨_, _, _, _, _, _⟩) (v := ?_) rfl (by kernel_rfl) (by kernel_rfl) (by kernel_rfl) (fun _ _ _ h => h) (Or.inl ⟨by rfl, ?_⟩) (by assumption) ?_
      rotate_left 1
      · intro W' hSw
        obtain ⟨hS1, hS2, hS3⟩ := hSw
        go_simp
        try with_reducible rfl
      try simp only [Act.put, List.setIfInBounds_toArray, List.set_cons_zero, List.set_cons_succ]
      refine wpAnyH_take (i := 9) (oi := ⟨_, _, _, _, _, _⟩) (v := ?_) rfl (by kernel_rfl) (by kernel_rfl) (by kernel_rfl) (fun _ _ _ h => h) (Or.inl ⟨by rfl, ?_⟩) (by assumption) ?_
      rotate_left 1
      · intro W' hSw
        obtain ⟨hS1, hS2, hS3⟩ := hSw
        go_simp
        try with_reducible rfl
      try simp only [Act.put, List.setIfInBounds_toArray, List.set_cons_zero, List.set_cons_succ]
      refine wpAnyH_take (i := 10) (oi := ⟨_, _, _, _, _, _⟩) (v := ?_) rfl (by kernel_rfl) (by kernel_rfl) (by kernel_rfl) (fun _ _ _ h => h) (Or.inl ⟨by rfl, ?_⟩) (by assumption) ?_
      rotate_left 1
      · intro W' hSw
        obtain ⟨hS1, hS2, hS3⟩ := hSw
        go_simp
        try with_reducible rfl
      try simp only [Act.put, List.setIfInBounds_toArray, List.set_cons_zero, List.set_cons_succ]
      refine wpAnyH_take (i := 11) (oi := ⟨_, _, _, _, _, _⟩) (v := ?_) rfl (by kernel_rfl) (by kernel_rfl) (by kernel_rfl) (fun _ _ _ h => h) (Or.inl ⟨by rfl, ?_⟩) (by assumption) ?_
      rotate_left 1
      · intro W' hSw
        obtain ⟨hS1, hS2, hS3⟩ := hSw
        go_simp
        try with_reducible rfl
      try simp only [Act.put, List.setIfInBounds_toArray, List.set_cons_zero, List.set_cons_succ]
      refine wpAnyH_take (i := 12) (oi := ⟨_, _, _, _, _, _⟩) (v := ?_) rfl (by kernel_rfl) (by kernel_rfl) (by kernel_rfl) (fun _ _ _ h => h) (Or.inl ⟨by rfl, ?_⟩) (by assumption) ?_
      rotate_left 1
      · intro W' hSw
        obtain ⟨hS1, hS2, hS3⟩ := hSw
        go_simp
        try with_reducible rfl
      try simp only [Act.put, List.setIfInBounds_toArray, List.set_cons_zero, List.set_cons_succ]
      refine wpAnyH_take (i := 13) (oi := ⟨_, _, _, _, _, _⟩) (v := ?_) rfl (by kernel_rfl) (by kernel_rfl) (by kernel_rfl) (fun _ _ _ h => h) (Or.inl ⟨by rfl, ?_⟩) (by assumption) ?_
      rotate_left 1
      · intro W' hSw
        obtain ⟨hS1, hS2, hS3⟩ := hSw
        go_simp
        try with_reducible rfl
      try simp only [Act.put, List.setIfInBounds_toArray, List.set_cons_zero, List.set_cons_succ]
      refine wpAnyH_done (by kernel_rfl) ?_ _
      go_wp2_with fail
      refine ret_cell_tmp (C := e.enc) rfl rfl rfl HB.out (by kernel_rfl) (by rw [Env.length_enc]; kernel_rfl) rfl ?_
      exact HP.out
    · have HU' : Hid (uniF a row (c + 1) s = some (eU e vi rv)) := by show _ = _; rw [hs1, if_pos rfl, if_neg hbad]
      obtain ⟨e', he'⟩ : ∃ e', e' = eU e vi rv := ⟨_, rfl⟩
      rw [← he'] at HU' hep
      have HV' : Hid (W.Extends (put V.drew b5 e'.enc) ∧ blk (put V.drew b5 e'.enc) b3 = some XE ∧ blk (put V.drew b5 e'.enc) b4 = some (arr i64v row) ∧ blk (put V.drew b5 e'.enc) b5 = some e'.enc ∧ free (put V.drew b5 e'.enc) b5 = true ∧ blk (put V.drew b5 e'.enc) b6 = some Env.zero.enc ∧ free (put V.drew b5 e'.enc) b6 = true) := by
        refine ⟨extends_put hd hn_b5 _, by rw [blk_put, if_neg n_b3_b5]; exact hb3, by rw [blk_put, if_neg n_b4_b5]; exact hb4, ?_, by rw [free_put]; exact hf5, by rw [blk_put, if_neg n_b6_b5]; exact hb6, by rw [free_put]; exact hf6⟩
        rw [blk_put, if_pos rfl, hb5d]; rfl
      clear HV hx hd HU HEND hs1 hnone hsb hsv he' hb6 hf6
      cases sb
      · clear hbad
        go_upto_region 8 with fail
        refine wp_region_held_drew (S := fun W' => blk W' b3 = some XE ∧ blk W' b4 = some (arr i64v row) ∧ blk W' b5 = some e.enc) (by kernel_rfl) ⟨hb3, hb4, hb5⟩ (fun hHeld => ?_)
        refine wpAnyH_take (i := 0) (oi := ⟨_, _, _, _, _, _⟩) (v := ?_) rfl (by kernel_rfl) (by kernel_rfl) (by kernel_rfl) (fun _ _ _ h => h) (Or.inl ⟨by rfl, ?_⟩) (by assumption) ?_
        rotate_left 1
        · intro W' hSw
          obtain ⟨hS1, hS2, hS3⟩ := hSw
          go_simp
          try with_reducible rfl
        try simp only [Act.put, List.setIfInBounds_toArray, List.set_cons_zero, List.set_cons_succ]
        refine wpAnyH_take (i := 1) (oi := ⟨_, _, _, _, _, _⟩) (v := ?_) rfl (by kernel_rfl) (by kernel_rfl) (by kernel_rfl) (fun _ _ _ h => h) (Or.inl ⟨by rfl, ?_⟩) (by assumption) ?_
        rotate_left 1
        · intro W' hSw
          obtain ⟨hS1, hS2, hS3⟩ := hSw
          go_simp
          try with_reducible rfl
        try simp only [Act.put, List.setIfInBounds_toArray, List.set_cons_zero, List.set_cons_succ]
        refine wpAnyH_take (i := 2) (oi := ⟨_, _, _, _, _, _⟩) (v := ?_) rfl (by kernel_rfl) (by kernel_rfl) (by kernel_rfl) (fun _ _ _ h => h) (Or.inl ⟨by rfl, ?_⟩) (by assumption) ?_
        rotate_left 1
        · intro W' hSw
          obtain ⟨hS1, hS2, hS3⟩ := hSw
          go_simp
          try with_reducible rfl
        try simp only [Act.put, List.setIfInBounds_toArray, List.set_cons_zero, List.set_cons_succ]
        refine wpAnyH_take (i := 3) (oi := ⟨_, _, _, _, _, _⟩) (v := ?_) rfl (by kernel_rfl) (by kernel_rfl) (by kernel_rfl) (fun _ _ _ h => h) (Or.inl ⟨by rfl, ?_⟩) (by assumption) ?_
        rotate_left 1
        · intro W' hSw
          obtain ⟨hS1, hS2, hS3⟩ := hSw
          go_simp
          try with_reducible rfl
        try simp only [Act.put, List.setIfInBounds_toArray, List.set_cons_zero, List.set_cons_succ]
        refine wpAnyH_take (i := 4) (oi := ⟨_, _, _, _, _, _⟩) (v := ?_) rfl (by kernel_rfl) (by kernel_rfl) (by kernel_rfl) (fun _ _ _ h => h) (Or.inl ⟨by rfl, ?_⟩) (by assumption) ?_
        rotate_left 1
        · intro W' hSw
          obtain ⟨hS1, hS2, hS3⟩ := hSw
          go_simp
          try with_reducible rfl
        try simp only [Act.put, List.setIfInBounds_toArray, List.set_cons_zero, List.set_cons_succ]
        refine wpAnyH_take (i := 5) (oi := ⟨_, _, _, _, _, _⟩) (v := undef) rfl (by kernel_rfl) (by kernel_rfl) (by kernel_rfl) (fun _ _ _ h => h) (Or.inr ⟨by rfl, rfl⟩) (by assumption) ?_
        try simp only [Act.put, List.setIfInBounds_toArray, List.set_cons_zero, List.set_cons_succ]
        refine wpAnyH_take (i := 6) (oi := ⟨_, _, _, _, _, _⟩) (v := undef) rfl (by kernel_rfl) (by kernel_rfl) (by kernel_rfl) (fun _ _ _ h => h) (Or.inr ⟨by rfl, rfl⟩) (by assumption) ?_
        try simp only [Act.put, List.setIfInBounds_toArray, List.set_cons_zero, List.set_cons_succ]
        refine wpAnyH_take (i := 7) (oi := ⟨_, _, _, _, _, _⟩) (v := undef) rfl (by kernel_rfl) (by kernel_rfl) (by kernel_rfl) (fun _ _ _ h => h) (Or.inr ⟨by rfl, rfl⟩) (by assumption) ?_
        try simp only [Act.put, List.setIfInBounds_toArray, List.set_cons_zero, List.set_cons_succ]
        refine wpAnyH_take (i := 8) (oi := ⟨_, _, _, _, _, _⟩) (v := undef) rfl (by kernel_rfl) (by kernel_rfl) (by kernel_rfl) (fun _ _ _ h => h) (Or.inr ⟨by rfl, rfl⟩) (by assumption) ?_
        try simp only [Act.put, List.setIfInBounds_toArray, List.set_cons_zero, List.set_cons_succ]
        refine wpAnyH_take (i := 9) (oi := ⟨_, _, _, _, _, _⟩) (v := undef) rfl (by kernel_rfl) (by kernel_rfl) (by kernel_rfl) (fun _ _ _ h => h) (Or.inr ⟨by rfl, rfl⟩) (by assumption) ?_
        try simp only [Act.put, List.setIfInBounds_toArray, List.set_cons_zero, List.set_cons_succ]
        refine wpAnyH_take (i := 10) (oi := ⟨_, _, _, _, _, _⟩) (v := undef) rfl (by kernel_rfl) (by kernel_rfl) (by kernel_rfl) (fun _ _ _ h => h) (Or.inr ⟨by rfl, rfl⟩) (by assumption) ?_
        try simp only [Act.put, List.setIfInBounds_toArray, List.set_cons_zero, List.set_cons_succ]
        refine wpAnyH_take (i := 11) (oi := ⟨_, _, _, _, _, _⟩) (v := undef) rfl (by kernel_rfl) (by kernel_rfl) (by kernel_rfl) (fun _ _ _ h => h) (Or.inr ⟨by rfl, rfl⟩) (by assumption) ?_
        try simp only [Act.put, List.setIfInBounds_toArray, List.set_cons_zero, List.set_cons_succ]
        refine wpAnyH_take (i := 12) (oi := ⟨_, _, _, _, _, _⟩) (v := undef) rfl (by kernel_rfl) (by kernel_rfl) (by kernel_rfl) (fun _ _ _ h => h) (Or.inr ⟨by rfl, rfl⟩) (by assumption) ?_
        try simp only [Act.put, List.setIfInBounds_toArray, List.set_cons_zero, List.set_cons_succ]
        refine wpAnyH_take (i := 13) (oi := ⟨_, _, _, _, _, _⟩) (v := ?_) rfl (by kernel_rfl) (by kernel_rfl) (by kernel_rfl) (fun _ _ _ h => h) (Or.inl ⟨by rfl, ?_⟩) (by assumption) ?_
        rotate_left 1
        · intro W' hSw
          obtain ⟨hS1, hS2, hS3⟩ := hSw
          go_simp
          try with_reducible rfl
        try simp only [Act.put, List.setIfInBounds_toArray, List.set_cons_zero, List.set_cons_succ]
        refine wpAnyH_done (by kernel_rfl) ?_ _
        go_wp2_with fail
        refine ⟨rfl, rfl, ⟨rfl, rfl, rfl, rfl, c + 1, _, by omega, ?_, HU', HV'⟩, ?_⟩
        · show Value.int .i64 _ = _
          go_num
        · show a.args.length - (intOf (Value.int .i64 _)).toNat < a.args.length - (intOf (F 8)).toNat
          rw [H8.out]
          simp [intOf]; omega
      · have hve : sv = rv := by
          by_cases h : sv = rv
          · exact h
          · exact absurd ⟨rfl, h⟩ hbad
        clear hbad
        subst hve
        have hnb : (sv != sv) = false := by simp
        go_upto_region 8 with fail
        refine wp_region_held_drew (S := fun W' => blk W' b3 = some XE ∧ blk W' b4 = some (arr i64v row) ∧ blk W' b5 = some e.enc) (by kernel_rfl) ⟨hb3, hb4, hb5⟩ (fun hHeld => ?_)
        refine wpAnyH_take (i := 0) (oi := ⟨_, _, _, _, _, _⟩) (v := ?_) rfl (by kernel_rfl) (by kernel_rfl) (by kernel_rfl) (fun _ _ _ h => h) (Or.inl ⟨by rfl, ?_⟩) (by assumption) ?_
        rotate_left 1
        · intro W' hSw
          obtain ⟨hS1, hS2, hS3⟩ := hSw
          go_simp
          try with_reducible rfl
        try simp only [Act.put, List.setIfInBounds_toArray, List.set_cons_zero, List.set_cons_succ]
        refine wpAnyH_take (i := 1) (oi := ⟨_, _, _, _, _, _⟩) (v := ?_) rfl (by kernel_rfl) (by kernel_rfl) (by kernel_rfl) (fun _ _ _ h => h) (Or.inl ⟨by rfl, ?_⟩) (by assumption) ?_
        rotate_left 1
        · intro W' hSw
          obtain ⟨hS1, hS2, hS3⟩ := hSw
          go_simp
          try with_reducible rfl
        try simp only [Act.put, List.setIfInBounds_toArray, List.set_cons_zero, List.set_cons_succ]
        refine wpAnyH_take (i := 2) (oi := ⟨_, _, _, _, _, _⟩) (v := ?_) rfl (by kernel_rfl) (by kernel_rfl) (by kernel_rfl) (fun _ _ _ h => h) (Or.inl ⟨by rfl, ?_⟩) (by assumption) ?_
        rotate_left 1
        · intro W' hSw
          obtain ⟨hS1, hS2, hS3⟩ := hSw
          go_simp
          try with_reducible rfl
        try simp only [Act.put, List.setIfInBounds_toArray, List.set_cons_zero, List.set_cons_succ]
        refine wpAnyH_take (i := 3) (oi := ⟨_, _, _, _, _, _⟩) (v := ?_) rfl (by kernel_rfl) (by kernel_rfl) (by kernel_rfl) (fun _ _ _ h => h) (Or.inl ⟨by rfl, ?_⟩) (by assumption) ?_
        rotate_left 1
        · intro W' hSw
          obtain ⟨hS1, hS2, hS3⟩ := hSw
          go_simp
          try with_reducible rfl
        try simp only [Act.put, List.setIfInBounds_toArray, List.set_cons_zero, List.set_cons_succ]
        refine wpAnyH_take (i := 4) (oi := ⟨_, _, _, _, _, _⟩) (v := ?_) rfl (by kernel_rfl) (by kernel_rfl) (by kernel_rfl) (fun _ _ _ h => h) (Or.inl ⟨by rfl, ?_⟩) (by assumption) ?_
        rotate_left 1
        · intro W' hSw
          obtain ⟨hS1, hS2, hS3⟩ := hSw
          go_simp
          try with_reducible rfl
        try simp only [Act.put, List.setIfInBounds_toArray, List.set_cons_zero, List.set_cons_succ]
        refine wpAnyH_take (i := 5) (oi := ⟨_, _, _, _, _, _⟩) (v := ?_) rfl (by kernel_rfl) (by kernel_rfl) (by kernel_rfl) (fun _ _ _ h => h) (Or.inl ⟨by rfl, ?_⟩) (by assumption) ?_
        rotate_left 1
        · intro W' hSw
          obtain ⟨hS1, hS2, hS3⟩ := hSw
          go_simp
          try with_reducible rfl
        try simp only [Act.put, List.setIfInBounds_toArray, List.set_cons_zero, List.set_cons_succ]
        refine wpAnyH_take (i := 6) (oi := ⟨_, _, _, _, _, _⟩) (v := ?_) rfl (by kernel_rfl) (by kernel_rfl) (by kernel_rfl) (fun _ _ _ h => h) (Or.inl ⟨by rfl, ?_⟩) (by assumption) ?_
        rotate_left 1
        · intro W' hSw
          obtain ⟨hS1, hS2, hS3⟩ := hSw
          go_simp
          try with_reducible rfl
        try simp only [Act.put, List.setIfInBounds_toArray, List.set_cons_zero, List.set_cons_succ]
        refine wpAnyH_take (i := 7) (oi := ⟨_, _, _, _, _, _⟩) (v := ?_) rfl (by kernel_rfl) (by kernel_rfl) (by kernel_rfl) (fun _ _ _ h => h) (Or.inl ⟨by rfl, ?_⟩) (by assumption) ?_
        rotate_left 1
        · intro W' hSw
          obtain ⟨hS1, hS2, hS3⟩ := hSw
          go_simp
          try with_reducible rfl
        try simp only [Act.put, List.setIfInBounds_toArray, List.set_cons_zero, List.set_cons_succ]
        refine wpAnyH_take (i := 8) (oi := ⟨_, _, _, _, _, _⟩) (v := ?_) rfl (by kernel_rfl) (by kernel_rfl) (by kernel_rfl) (fun _ _ _ h => h) (Or.inl ⟨by rfl, ?_⟩) (by assumption) ?_
        rotate_left 1
        · intro W' hSw
          obtain ⟨hS1, hS2, hS3⟩ := hSw
          go_simp
          try with_reducible rfl
        try simp only [Act.put, List.setIfInBounds_toArray, List.set_cons_zero, List.set_cons_succ]
        refine wpAnyH_take (i := 9) (oi := ⟨_, _, _, _, _, _⟩) (v := ?_) rfl (by kernel_rfl) (by kernel_rfl) (by kernel_rfl) (fun _ _ _ h => h) (Or.inl ⟨by rfl, ?_⟩) (by assumption) ?_
        rotate_left 1
        · intro W' hSw
          obtain ⟨hS1, hS2, hS3⟩ := hSw
          go_simp
          try with_reducible rfl
        try simp only [Act.put, List.setIfInBounds_toArray, List.set_cons_zero, List.set_cons_succ]
        refine wpAnyH_take (i := 10) (oi := ⟨_, _, _, _, _, _⟩) (v := ?_) rfl (by kernel_rfl) (by kernel_rfl) (by kernel_rfl) (fun _ _ _ h => h) (Or.inl ⟨by rfl, ?_⟩) (by assumption) ?_
        rotate_left 1
        · intro W' hSw
          obtain ⟨hS1, hS2, hS3⟩ := hSw
          go_simp
          try with_reducible rfl
        try simp only [Act.put, List.setIfInBounds_toArray, List.set_cons_zero, List.set_cons_succ]
        refine wpAnyH_take (i := 11) (oi := ⟨_, _, _, _, _, _⟩) (v := ?_) rfl (by kernel_rfl) (by kernel_rfl) (by kernel_rfl) (fun _ _ _ h => h) (Or.inl ⟨by rfl, ?_⟩) (by assumption) ?_
        rotate_left 1
        · intro W' hSw
          obtain ⟨hS1, hS2, hS3⟩ := hSw
          go_simp
          try with_reducible rfl
        try simp only [Act.put, List.setIfInBounds_toArray, List.set_cons_zero, List.set_cons_succ]
        refine wpAnyH_take (i := 12) (oi := ⟨_, _, _, _, _, _⟩) (v := ?_) rfl (by kernel_rfl) (by kernel_rfl) (by kernel_rfl) (fun _ _ _ h => h) (Or.inl ⟨by rfl, ?_⟩) (by assumption) ?_
        rotate_left 1
        · intro W' hSw
          obtain ⟨hS1, hS2, hS3⟩ := hSw
          go_simp
          try with_reducible rfl
        try simp only [Act.put, List.setIfInBounds_toArray, List.set_cons_zero, List.set_cons_succ]
        refine wpAnyH_take (i := 13) (oi := ⟨_, _, _, _, _, _⟩) (v := ?_) rfl (by kernel_rfl) (by kernel_rfl) (by kernel_rfl) (fun _ _ _ h => h) (Or.inl ⟨by rfl, ?_⟩) (by assumption) ?_
        rotate_left 1
        · intro W' hSw
          obtain ⟨hS1, hS2, hS3⟩ := hSw
          go_simp
          try with_reducible rfl
        try simp only [Act.put, List.setIfInBounds_toArray, List.set_cons_zero, List.set_cons_succ]
        refine wpAnyH_done (by kernel_rfl) ?_ _
        go_wp2_with fail
        refine ⟨rfl, rfl, ⟨rfl, rfl, rfl, rfl, c + 1, _, by omega, ?_, HU', HV'⟩, ?_⟩
        · show Value.int .i64 _ = _
          go_num
        · show a.args.length - (intOf (Value.int .i64 _)).toNat < a.args.length - (intOf (F 8)).toNat
          rw [H8.out]
          simp [intOf]; omega
end Go.Proofs.Qxb6500787aGreat
