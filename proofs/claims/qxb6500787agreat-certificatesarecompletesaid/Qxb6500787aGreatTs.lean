
import Derived.Test.Qxb6500787aGreatTr
import Derived.StillTailTactics
import Derived.Deep.QuietTactic
import Derived.BigQuiet
import Derived.Deep.RegionHeld
import Derived.Deep.CutRange
import Derived.Laws.ResultCell
import Derived.Laws.Rows
import Derived.DeepKeys
import Derived.DataBytes
import Derived.Laws.StructEq
import Derived.Laws.AppendOwn
import Derived.Laws.MakeOwn
import Derived.Lib.AppendStr
set_option linter.unusedSimpArgs false
set_option linter.unusedVariables false
namespace Go.Proofs.Qxb6500787aGreat
open Go.RowKit Go.Blk
attribute [local go_sem ↓] execOp_load execOp_store execOp_alloc
attribute [local go_sem] Tryz.ld26 Tryz.st26 Tryz.ld27 Tryz.st27 Tryz.ld28 Tryz.st28 Tryz.ld3 Tryz.st3 Tryz.ld29 Tryz.st29 Tryz.ld44 Tryz.st44 Tryz.ld4 Tryz.st4 Tryz.ld50 Tryz.st50 Tryz.ld32 Tryz.st32 Tryz.ld49 Tryz.st49 Tryz.ld68 Tryz.st68 Tryz.ld9 Tryz.st9 Tryz.ld40 Tryz.st40 Tryz.ld138 Tryz.st138 Tryz.ld139 Tryz.st139 Tryz.ld146 Tryz.st146 Tryz.ld183 Tryz.st183 Tryz.ld184 Tryz.st184 Tryz.ld192 Tryz.st192 Tryz.ld195 Tryz.st195 Tryz.ld217 Tryz.st217 Tryz.ld159 Tryz.st159 Tryz.ld142 Tryz.st142 Tryz.ld2 Tryz.st2 Tryz.ld5 Tryz.st5 Tryz.ld12 Tryz.st12 Tryz.ld21 Tryz.st21 Tryz.ld22 Tryz.st22 Tryz.ld24 Tryz.st24 Tryz.ld58 Tryz.st58 Tryz.ld97 Tryz.st97 Tryz.ld101 Tryz.st101 Tryz.ld116 Tryz.st116 Tryz.ld121 Tryz.st121 Tryz.ld135 Tryz.st135 Tryz.ld136 Tryz.st136 Tryz.ld143 Tryz.st143 Tryz.ld148 Tryz.st148 Tryz.ld154 Tryz.st154 Tryz.ld173 Tryz.st173 Tryz.ld187 Tryz.st187 Tryz.ld222 Tryz.st222 Tryz.ld241 Tryz.st241 Tryz.ld248 Tryz.st248 Tryz.ld268 Tryz.st268 Tryz.ld272 Tryz.st272 Tryz.ld153 Tryz.st153 Tryz.ld255 Tryz.st255 Tryz.ld256 Tryz.st256 Tryz.ld129 Tryz.st129 Tryz.ld152 Tryz.st152 Tryz.ld31 Tryz.st31 Tryz.ld46 Tryz.st46 Tryz.ld52 Tryz.st52 Tryz.ld54 Tryz.st54 Tryz.ld60 Tryz.st60 Tryz.ld70 Tryz.st70 Tryz.ld74 Tryz.st74 Tryz.ld93 Tryz.st93 Tryz.ld141 Tryz.st141 Tryz.ld151 Tryz.st151 Tryz.ld170 Tryz.st170 Tryz.ld186 Tryz.st186 Tryz.ld189 Tryz.st189 Tryz.ld194 Tryz.st194 Tryz.ld197 Tryz.st197 Tryz.ld219 Tryz.st219 Tryz.ld224 Tryz.st224 Tryz.ld230 Tryz.st230 Tryz.ld235 Tryz.st235 Tryz.ld243 Tryz.st243 Tryz.ld247 Tryz.st247 Tryz.ld252 Tryz.st252 Tryz.ld258 Tryz.st258 Tryz.al153 Tryz.al255 Tryz.al256 Tryz.al129 Tryz.al152 Tryz.al31 Tryz.al46 Tryz.al52 Tryz.al54 Tryz.al60 Tryz.al70 Tryz.al74 Tryz.al93 Tryz.al141 Tryz.al151 Tryz.al170 Tryz.al186 Tryz.al189 Tryz.al194 Tryz.al197 Tryz.al219 Tryz.al224 Tryz.al230 Tryz.al235 Tryz.al243 Tryz.al247 Tryz.al252 Tryz.al258
attribute [local go_sem] Request.length_enc Request.ok_enc Request.all_get Request.all_set Request.kind_get Request.kind_set Request.blob_get Request.blob_set Request.items_get Request.items_set Request.pred_get Request.pred_set Request.slots_get Request.slots_set Trace.length_enc Trace.ok_enc Trace.all_get Trace.all_set Trace.op_get Trace.op_set Trace.calls_get Trace.calls_set Item.length_enc Item.ok_enc Item.all_get Item.all_set Item.del_get Item.del_set Item.pred_get Item.pred_set Item.args_get Item.args_set Reply.length_enc Reply.ok_enc Reply.all_get Reply.all_set Reply.code_get Reply.code_set Reply.kind_get Reply.kind_set Reply.index_get Reply.index_set Reply.yes_get Reply.yes_set Reply.preds_get Reply.preds_set Reply.rules_get Reply.rules_set Reply.arity_get Reply.arity_set Reply.rows_get Reply.rows_set Reply.fact_get Reply.fact_set Reply.fact_del_get Reply.fact_del_set Reply.fact_pred_get Reply.fact_pred_set Reply.fact_args_get Reply.fact_args_set GEntry.length_enc GEntry.ok_enc GEntry.all_get GEntry.all_set GEntry.seq_get GEntry.seq_set GEntry.kind_get GEntry.kind_set GEntry.code_get GEntry.code_set GOp.length_enc GOp.ok_enc GOp.all_get GOp.all_set GOp.kind_get GOp.kind_set GOp.raw_get GOp.raw_set Reader.length_enc Reader.ok_enc Reader.all_get Reader.all_set Reader.buf_get Reader.buf_set Reader.at__get Reader.at__set Slot.length_enc Slot.ok_enc Slot.all_get Slot.all_set Slot.bound_get Slot.bound_set Slot.name_get Slot.name_set Session.length_enc Session.ok_enc Session.all_get Session.all_set Session.svc_get Session.svc_set Session.buf_get Session.buf_set Session.closed_get Session.closed_set GProgram.length_enc GProgram.ok_enc GProgram.all_get GProgram.all_set GProgram.pool_get GProgram.pool_set GProgram.preds_get GProgram.preds_set GProgram.rules_get GProgram.rules_set GProgram.strata_get GProgram.strata_set PredInfo.length_enc PredInfo.ok_enc PredInfo.all_get PredInfo.all_set PredInfo.arity_get PredInfo.arity_set PredInfo.base_get PredInfo.base_set PredInfo.stratum_get PredInfo.stratum_set Change.length_enc Change.ok_enc Change.all_get Change.all_set Change.del_get Change.del_set Change.pred_get Change.pred_set Change.t_get Change.t_set Store.length_enc Store.ok_enc Store.all_get Store.all_set Store.names_get Store.names_set Store.arity_get Store.arity_set Store.rows_get Store.rows_set Src.length_enc Src.ok_enc Src.all_get Src.all_set Src.b_get Src.b_set Src.at__get Src.at__set Atom.length_enc Atom.ok_enc Atom.all_get Atom.all_set Atom.pred_get Atom.pred_set Atom.args_get Atom.args_set GRule.length_enc GRule.ok_enc GRule.all_get GRule.all_set GRule.head_get GRule.head_set GRule.body_get GRule.body_set GRule.head_pred_get GRule.head_pred_set GRule.head_args_get GRule.head_args_set Cert.length_enc Cert.ok_enc Cert.all_get Cert.all_set Cert.names_get Cert.names_set Cert.nodes_get Cert.nodes_set Fact.length_enc Fact.ok_enc Fact.all_get Fact.all_set Fact.pred_get Fact.pred_set Fact.t_get Fact.t_set Literal.length_enc Literal.ok_enc Literal.all_get Literal.all_set Literal.neg_get Literal.neg_set Literal.atom_get Literal.atom_set Literal.atom_pred_get Literal.atom_pred_set Literal.atom_args_get Literal.atom_args_set Engine.length_enc Engine.ok_enc Engine.all_get Engine.all_set Engine.prog_get Engine.prog_set Engine.st_get Engine.st_set SrcCertm.length_enc SrcCertm.ok_enc SrcCertm.all_get SrcCertm.all_set SrcCertm.b_get SrcCertm.b_set SrcCertm.at__get SrcCertm.at__set GNode.length_enc GNode.ok_enc GNode.all_get GNode.all_set GNode.rule_get GNode.rule_set GNode.pred_get GNode.pred_set GNode.vals_get GNode.vals_set GNode.refs_get GNode.refs_set Term.length_enc Term.ok_enc Term.all_get Term.all_set Term.var_get Term.var_set Term.n_get Term.n_set Env.length_enc Env.ok_enc Env.all_get Env.all_set Env.val_get Env.val_set Env.set_get Env.set_set
attribute [local go_sem] size_put size_ext blk_put free_put blk_alloc free_alloc blk_drew free_drew blk_ext free_ext lookOr_some putOr_some segAt_some cellAt_some storeIn_some put_put put_alloc_new length_arr ok_arr_u8 ok_arr_u32 ok_arr_u64 ok_arr_i64 ok_arr_sl cellsV_agg cellsV_int cellsV_bool cellsV_string cellsV_pointer cellsV_slice cellsV_sl ok_int ok_bool ok_string ok_pointer ok_slice ok_sl toList_arr seg_arr set_arr nth_splice nth_splice0 seg_splice seg_splice0 splice_splice splice_splice0 length_splice_if
attribute [local go_sem ↓] execOp_box
attribute [local go_sem] box_run nth_arr_u8 put_arr_u8 blk_drewN free_drewN put_drewN blk_raw free_raw
theorem Sto.lower {B B' : Nat} {O : Own} {W : World} {g bst : Nat} {N : List (List UInt8)} {A : List Int} {R : List (List Tup)} (h : Sto B O W g bst N A R) (hb : B' ≤ B) : Sto B' O W g bst N A R := by
  obtain ⟨na, nn, nc, aa, an, ac, ra, rn, rc, Ds, hs⟩ := h
  exact ⟨na, nn, nc, aa, an, ac, ra, rn, rc, Ds, hs.cell, hs.fre, hs.own, by have := hs.low; omega, ⟨row_base hs.nm.1 hb, hs.nm.2⟩, ⟨row_base hs.ar.1 hb, hs.ar.2⟩, ⟨row_base hs.rw.1 hb, hs.rw.2⟩, hs.dl, hs.dr⟩
/-- The cells of a new instance. -/
def insE (x : GProgram) (st : Option Addr) : List Value := GProgram.enc x ++ ([.pointer st, .pointer none] ++ (List.replicate 256 (.int .i64 0) ++ [.int .i64 0]))
set_option maxRecDepth 100000 in
theorem build145_lit (w : World) (a1 : Option Addr) (n1 c1 : Nat) (a2 : Option Addr) (n2 c2 : Nat) (a3 : Option Addr) (n3 c3 : Nat) (k : Int) (st : Option Addr) : (buildOp 166 #[(0, .agg #[.slice a1 n1 c1, .slice a2 n2 c2, .slice a3 n3 c3, .int .i64 k]), (1, .pointer st)]).run Tryz.prog w = .ok (.value (.agg (insE ⟨⟨a1, n1, c1⟩, ⟨a2, n2, c2⟩, ⟨a3, n3, c3⟩, k⟩ st).toArray)) w := by kernel_rfl
theorem build145 (w : World) (x : GProgram) (st : Option Addr) : (buildOp 166 #[(0, .agg (GProgram.enc x).toArray), (1, .pointer st)]).run Tryz.prog w = .ok (.value (.agg (insE x st).toArray)) w := build145_lit w x.pool.a x.pool.len x.pool.cap x.preds.a x.preds.len x.preds.cap x.rules.a x.rules.len x.rules.cap x.strata st
theorem ins_len (x : GProgram) (st : Option Addr) : (insE x st).length = 263 := by
  unfold insE
  rw [List.length_append, GProgram.length_enc, List.length_append, List.length_append, List.length_replicate]
  simp only [List.length_cons, List.length_nil]
theorem ins_lt (x : GProgram) (st : Option Addr) {k : Nat} (h : k < 4) : nth (insE x st) k = nth (GProgram.enc x) k := by
  unfold insE nth
  rw [List.getElem?_append_left (by rw [GProgram.length_enc]; exact h)]
theorem ins4 (x : GProgram) (st : Option Addr) : nth (insE x st) 4 = some (.pointer st) := rfl
theorem ins5 (x : GProgram) (st : Option Addr) : nth (insE x st) 5 = some (.pointer none) := rfl
theorem ins_us (x : GProgram) (st : Option Addr) {y : Nat} (h : y < 256) : nth (insE x st) (6 + y) = some (.int .i64 0) := by
  unfold insE nth
  rw [List.getElem?_append_right (by rw [GProgram.length_enc]; omega), GProgram.length_enc, List.getElem?_append_right (by simp; omega), List.getElem?_append_left (by rw [List.length_replicate]; simp; omega), List.getElem?_replicate, if_pos (by simp; omega)]
theorem ins_lv (x : GProgram) (st : Option Addr) : nth (insE x st) 262 = some (.int .i64 0) := by
  unfold insE nth
  rw [List.getElem?_append_right (by rw [GProgram.length_enc]; omega), GProgram.length_enc, List.getElem?_append_right (by simp), List.getElem?_append_right (by rw [List.length_replicate]; simp), List.length_replicate]
  simp
/-- What only touches new blocks, touches nothing old. -/
theorem Fr.fresh {L : Lab → Prop} {O O' O'' : Own} {W V V' : World} (h : Fr (fun _ => False) O W O' V) (h' : Fr L O' V O'' V') (hf : ∀ k, k < W.heap.size → ¬ L (O k)) : Fr (fun _ => False) O W O'' V' := by
  have h1 := (h.mono (L' := L) (fun _ h => h.elim)).trans h'
  exact ⟨h1.os, h1.tape, h1.output, h1.size, h1.keep, fun k hk _ => h1.block k hk (hf k hk)⟩
theorem Fr.toExt {O O' : Own} {W V : World} (h : Fr (fun _ => False) O W O' V) : W.Extends V := h.extends (ext_Ext (Ext.refl _)) (fun _ _ h => h)
/-- The counts of a new instance after i constants of the pool. -/
def poolU (i : Nat) : Nat → Int := fun y => if y < i then 1 else 0
def newS (p : PP) (P : List (List Tup)) (i : Nat) : InsS := ⟨p, p.pool, P, poolU i, (i : Int)⟩
theorem newS_ret (p : PP) (P : List (List Tup)) (i : Nat) : retS (newS p P i) i = newS p P (i + 1) := by
  unfold retS newS
  simp only [InsS.mk.injEq, true_and]
  refine ⟨?_, ?_⟩
  · funext y
    unfold retU poolU
    by_cases h : y = i
    · subst h
      rw [if_pos rfl, if_neg (Nat.lt_irrefl _), if_pos (by omega)]; rfl
    · rw [if_neg h]
      by_cases h2 : y < i
      · rw [if_pos h2, if_pos (by omega)]
      · rw [if_neg h2, if_neg (by omega)]
  · rw [if_pos (by unfold poolU; rw [if_neg (Nat.lt_irrefl _)])]; omega
theorem newS_UB (p : PP) (P : List (List Tup)) {i : Nat} (h : i ≤ 256) : UB 1000 (newS p P i) := by
  refine ⟨fun z hz => ?_, ?_, ?_⟩
  · show -1000 ≤ poolU i z ∧ poolU i z ≤ 1000
    unfold poolU
    split <;> omega
  · show -1000 ≤ (i : Int); omega
  · show (i : Int) ≤ 1000; omega
/-- The first evaluation of a program, over no facts. -/
def Fst (p : PP) (P : List (List Tup)) : Prop := PerfTo p 0 (basR p (List.replicate p.preds.length [])) P ∧ RInv p P
def NewIPost (O : Own) (W : World) (g : Nat) (p : PP) (e : Ending) (V : World) : Prop := ∃ P, Fst p P ∧ W.Extends V ∧ ((overB P = true ∧ e = .returned (.tuple #[.pointer none, .int .i64 16])) ∨ (overB P = false ∧ ∃ bi O', e = .returned (.tuple #[.pointer (some ⟨bi, 0, none⟩), .int .i64 0]) ∧ Fr (fun _ => False) O W O' V ∧ InsAt W.heap.size O' V g bi (newS p P p.pool.length)))
def niI (B : Nat) (O : Own) (W : World) (g bi b1 : Nat) (p : PP) (P : List (List Tup)) (X : List Value) (f : Nat → Value) (V : World) : Prop := f 1 = .pointer (some ⟨b1, 0, none⟩) ∧ f 4 = .pointer (some ⟨bi, 0, none⟩) ∧ ∃ i : Nat, i ≤ p.pool.length ∧ f 7 = .int .i64 (i : Nat) ∧ Hid (∃ O', Fr (fun _ => False) O W O' V ∧ InsAt B O' V g bi (newS p P i) ∧ blk V b1 = some X ∧ O' b1 = .no)
attribute [local go_sem ↓] execOp_build
attribute [local go_sem] build145 ins_len ins4 ins5
set_option maxRecDepth 100000 in
theorem frame41n (f : Nat → Value) : frameN 41 f = #[f 0, f 1, f 2, f 3, f 4, f 5, f 6, f 7, f 8, f 9, f 10, f 11, f 12, f 13, f 14, f 15, f 16, f 17, f 18, f 19, f 20, f 21, f 22, f 23, f 24, f 25, f 26, f 27, f 28, f 29, f 30, f 31, f 32, f 33, f 34, f 35, f 36, f 37, f 38, f 39, f 40] := by kernel_rfl
set_option maxRecDepth 40000 in
set_option maxHeartbeats 4000000 in
theorem newInst_any {O : Own} {W : World} (g : Nat) (x : GProgram) (p : PP) (hp : PgR (core O W) (GProgram.enc x) p) (hok : PPok p) (hnd : p.pool.Nodup) (hfr : ∀ k, k < W.heap.size → ¬ isI g (O k)) : Calls Tryz.prog 129 #[.agg (GProgram.enc x).toArray] W (NewIPost O W g p) := by
  obtain ⟨Q, hQ⟩ : ∃ Q, Q = NewIPost O W g p := ⟨_, rfl⟩
  rw [← hQ]
  have HQ := hid_of hQ
  have HP := hid_of hp
  have HK := hid_of hok
  have HND := hid_of hnd
  have HFR := hid_of hfr
  have h256 := hok.nP
  have y0 : nth (GProgram.enc x) 0 = some (.slice x.pool.a p.pool.length x.pool.cap) := by
    obtain ⟨sp, sd, sr, h1, _, _, _, h5, _⟩ := hp
    have h1' : some (Sl.val x.pool) = some (Sl.val sp) := (GProgram.pool_get x).symm.trans h1
    have h2 : Sl.val x.pool = Sl.val sp := Option.some.inj h1'
    have h3 : x.pool.len = sp.len := by unfold Sl.val at h2; exact (Value.slice.inj h2).2.1
    rw [GProgram.pool_get]
    show some (Value.slice x.pool.a x.pool.len x.pool.cap) = _
    rw [h3, ← h5.1]
  have yl : (GProgram.enc x).length = 4 := GProgram.length_enc x
  have ya : seg (GProgram.enc x) 0 4 = GProgram.enc x := GProgram.all_get x
  have yo : okCells 4 (GProgram.enc x) = true := GProgram.ok_enc x
  have hinl := ins_lt x
  have y01 : 0 < (GProgram.enc x).length := by omega
  have y04 : 0 + 4 ≤ (GProgram.enc x).length := by omega
  clear hQ hp hok hnd hfr yl
  go_enter Tryz.func129, Tryz.ntmps129
  go_upto_region 1 with fail
  refine wp_world (fun V => W.Extends V ∧ blk V W.heap.size = some (GProgram.enc x)) ⟨extends_alloc (ext_Ext (Ext.refl _)) _, by rw [blk_alloc, if_pos rfl]⟩ ?_
  rintro V1 ⟨hx1, hb1⟩
  obtain ⟨b1, eb1⟩ : ∃ b1, b1 = W.heap.size := ⟨_, rfl⟩
  rw [← eb1] at hb1 ⊢
  obtain ⟨O1, hO1⟩ : ∃ O1, O1 = lab O W.heap.size .no := ⟨_, rfl⟩
  have hF1 : Fr (fun _ => False) O W O1 V1 := by rw [hO1]; exact Fr.grow hx1
  have hb1o : O1 b1 = .no := by rw [hO1, eb1]; exact lab_ge (Nat.le_refl _)
  have hfr1 : ∀ k, k < V1.heap.size → ¬ isI g (O1 k) := fun k hk => by
    by_cases h : k < W.heap.size
    · rw [hO1, lab_lt h]; exact HFR.out k h
    · rw [hO1, lab_ge (by omega)]; exact isI_no g
  have HF1 := hid_of hF1
  have HFR1 := hid_of hfr1
  have HB1 := hid_of hb1
  have HB1O := hid_of hb1o
  have hns := newSt_any O1 V1.drew g
  have HSX : Hid (∀ V', V1.Extends V' → blk V' b1 = some (GProgram.enc x)) := fun V' hx => (hx.blk (blk_lt HB1.out)).trans HB1.out
  clear hx1 eb1 hO1 hF1 hb1o hfr1
  refine wp_region_held_drew (S := fun W' => blk W' b1 = some (GProgram.enc x)) (by kernel_rfl) hb1 (fun hHeld => ?_)
  refine wpAnyH_take (i := 0) (oi := ⟨_, _, _, _, _, _⟩) (v := ?_) rfl (by kernel_rfl) (by kernel_rfl) (by kernel_rfl) (fun _ _ _ h => h) (Or.inl ⟨by rfl, ?_⟩) (by assumption) ?_
  rotate_left 1
  · intro W' hSw
    go_simp
    try with_reducible rfl
  try simp only [Act.put, List.setIfInBounds_toArray, List.set_cons_zero, List.set_cons_succ]
  refine wpAnyH_ready (rs := [1]) (by kernel_rfl) (by simp) ?_
  refine AllReadyH.cons (o := ⟨_, _, _, _, _, _⟩) rfl (fun K' hK => ?_) AllReadyH.nil
  go_simp
  refine hns.mono ?_
  rintro en V2 ⟨bst, O2, rfl, hx2, hk2, hO2, hS2⟩
  dsimp only
  refine hK.out _ _ (HSX.out _ ((extd V1).trans hx2)) (fun hHeld => ?_)
  clear hK K'
  try simp only [Act.put, List.setIfInBounds_toArray, List.set_cons_zero, List.set_cons_succ]
  refine wpAnyH_take (i := 2) (oi := ⟨_, _, _, _, _, _⟩) (v := ?_) rfl (by kernel_rfl) (by kernel_rfl) (by kernel_rfl) (fun _ _ _ h => h) (Or.inl ⟨by rfl, ?_⟩) (by assumption) ?_
  rotate_left 1
  · intro W' hSw
    go_simp
    try with_reducible rfl
  try simp only [Act.put, List.setIfInBounds_toArray, List.set_cons_zero, List.set_cons_succ]
  refine wpAnyH_ready (rs := [3]) (by kernel_rfl) (by simp) ?_
  refine AllReadyH.cons (o := ⟨_, _, _, _, _, _⟩) rfl (fun K' hK => ?_) AllReadyH.nil
  go_simp
  refine hK.out _ _ (HSX.out _ (extends_alloc ((extd V1).trans hx2) _)) (fun hHeld => ?_)
  clear hK K'
  try simp only [Act.put, List.setIfInBounds_toArray, List.set_cons_zero, List.set_cons_succ]
  refine wpAnyH_take (i := 4) (oi := ⟨_, _, _, _, _, _⟩) (v := ?_) rfl (by kernel_rfl) (by kernel_rfl) (by kernel_rfl) (fun _ _ _ h => h) (Or.inl ⟨by rfl, ?_⟩) (by assumption) ?_
  rotate_left 1
  · intro W' hSw
    go_simp
    try with_reducible rfl
  try simp only [Act.put, List.setIfInBounds_toArray, List.set_cons_zero, List.set_cons_succ]
  refine wpAnyH_done (by kernel_rfl) ?_ _
  obtain ⟨bi, ebi⟩ : ∃ bi, bi = V2.heap.size := ⟨_, rfl⟩
  go_upto_region 2 with fail
  refine wp_world (fun V => V2.Extends V ∧ blk V V2.heap.size = some (insE x (some ⟨bst, 0, none⟩)) ∧ free V V2.heap.size = true) ⟨extends_alloc (ext_Ext (Ext.refl _)) _, by rw [blk_alloc, if_pos rfl], by rw [free_alloc, if_pos rfl]⟩ ?_
  rintro V3 ⟨hx3, hbi, hfi⟩
  rw [← ebi] at hbi hfi ⊢
  have hlt1 : W.heap.size ≤ V1.heap.size := HF1.out.size
  have hO2' : ∀ k, k < V1.heap.size → O2 k = O1 k := hk2
  obtain ⟨O3, hO3⟩ : ∃ O3, O3 = lab O2 V2.heap.size (.a (2 * g + 1) 0) := ⟨_, rfl⟩
  have hF13 : Fr (fun _ => False) O1 V1 O3 V3 := by
    have hx13 := (extends_drew (ext_Ext (Ext.refl V1))).trans (hx2.trans hx3)
    refine ⟨hx13.os, hx13.tape, hx13.output, hx13.size, fun k hk => ?_, fun k hk _ => hx13.block k hk⟩
    rw [hO3, lab_lt (Nat.lt_of_lt_of_le hk (by have := hx2.size; exact this))]; exact hk2 k hk
  have hF3 := HF1.out.trans hF13
  have hO3i : O3 bi = .a (2 * g + 1) 0 := by rw [hO3, ebi]; exact lab_ge (Nat.le_refl _)
  have hS3 : Sto W.heap.size O3 V3 g bst [] [] [] := by
    have h1 := hS2.lower (B' := W.heap.size) hlt1
    exact h1.fr (L := fun _ => False) (O' := O3) (W' := V3) ⟨hx3.os, hx3.tape, hx3.output, hx3.size, fun k hk => by rw [hO3]; exact lab_lt hk, fun k hk _ => hx3.block k hk⟩ (fun _ h => h) (fun h => h)
  have hbiW : W.heap.size ≤ bi := by rw [ebi]; have := hx2.size; have h9 : V1.drew.heap.size = V1.heap.size := rfl; omega
  have hP3 : ProgL O3 V3 bi p := ⟨insE x (some ⟨bst, 0, none⟩), hbi, by rw [ins_len]; omega, (HP.out.sub (Sub.ext (core_fr hF3 (fun h => h)))).congr (fun k hk => hinl _ hk)⟩
  have hnew := engNew_any hP3 (by rw [hO3i]; exact not_isS g) HK.out HND.out hS3 hF3.size
  have hb1' : blk V3 b1 = some (GProgram.enc x) := hF13.blk HB1.out (fun h => h)
  have hb1o' : O3 b1 = .no := (hF13.keep b1 (blk_lt HB1.out)).trans HB1O.out
  have hfr3 : ∀ k, k < W.heap.size → ¬ isI g (O3 k) := fun k hk => by rw [hF3.keep k hk]; exact HFR.out k hk
  have HF3 := hid_of hF3
  have HFR3 := hid_of hfr3
  have HB1' : Hid (blk V3 b1 = some (GProgram.enc x) ∧ O3 b1 = .no) := ⟨hb1', hb1o'⟩
  have HBI : Hid (blk V3 bi = some (insE x (some ⟨bst, 0, none⟩)) ∧ free V3 bi = true ∧ O3 bi = .a (2 * g + 1) 0 ∧ W.heap.size ≤ bi) := ⟨hbi, hfi, hO3i, hbiW⟩
  have hc4 : (insE x (some ⟨bst, 0, none⟩)).length = 263 := ins_len _ _
  have hnd := engNew_any (hP3.fr (Fr.of_extends (L := fun _ => False) (extd V3)) (fun h => h) (fun h => h)) (by rw [hO3i]; exact not_isS g) HK.out HND.out (hS3.ext (extd V3)) (show W.heap.size ≤ V3.drew.heap.size from hF3.size)
  have HIX := hid_of hinl
  obtain ⟨IX, hIX⟩ : ∃ IX, IX = insE x (some ⟨bst, 0, none⟩) := ⟨_, rfl⟩
  rw [← hIX] at hbi HBI hc4
  have i4 : nth IX 4 = some (.pointer (some ⟨bst, 0, none⟩)) := by rw [hIX]; exact ins4 _ _
  have i5 : 4 < IX.length := by omega
  have i6 : 5 + 1 ≤ IX.length := by omega
  have HIX2 := hid_of hIX
  clear hns hx3 ebi hO2' hO3 hF13 hF3 hO3i hS3 hbiW hP3 hnew hb1' hb1o' hfr3 hx2 hk2 hO2 hS2 hIX hlt1 hinl hfi
  refine wp_region_held_drew (S := fun W' => blk W' bi = some IX) (by kernel_rfl) hbi (fun hHeld => ?_)
  refine wpAnyH_take (i := 0) (oi := ⟨_, _, _, _, _, _⟩) (v := ?_) rfl (by kernel_rfl) (by kernel_rfl) (by kernel_rfl) (fun _ _ _ h => h) (Or.inl ⟨by rfl, ?_⟩) (by assumption) ?_
  rotate_left 1
  · intro W' hSw
    go_simp
    try with_reducible rfl
  try simp only [Act.put, List.setIfInBounds_toArray, List.set_cons_zero, List.set_cons_succ]
  refine wpAnyH_take (i := 1) (oi := ⟨_, _, _, _, _, _⟩) (v := ?_) rfl (by kernel_rfl) (by kernel_rfl) (by kernel_rfl) (fun _ _ _ h => h) (Or.inl ⟨by rfl, ?_⟩) (by assumption) ?_
  rotate_left 1
  · intro W' hSw
    go_simp
    try with_reducible rfl
  try simp only [Act.put, List.setIfInBounds_toArray, List.set_cons_zero, List.set_cons_succ]
  refine wpAnyH_take (i := 2) (oi := ⟨_, _, _, _, _, _⟩) (v := ?_) rfl (by kernel_rfl) (by kernel_rfl) (by kernel_rfl) (fun _ _ _ h => h) (Or.inl ⟨by rfl, ?_⟩) (by assumption) ?_
  rotate_left 1
  · intro W' hSw
    go_simp
    try with_reducible rfl
  try simp only [Act.put, List.setIfInBounds_toArray, List.set_cons_zero, List.set_cons_succ]
  refine wpAnyH_take (i := 3) (oi := ⟨_, _, _, _, _, _⟩) (v := ?_) rfl (by kernel_rfl) (by kernel_rfl) (by kernel_rfl) (fun _ _ _ h => h) (Or.inl ⟨by rfl, ?_⟩) (by assumption) ?_
  rotate_left 1
  · intro W' hSw
    go_simp
    try with_reducible rfl
  try simp only [Act.put, List.setIfInBounds_toArray, List.set_cons_zero, List.set_cons_succ]
  refine wpAnyH_take (i := 4) (oi := ⟨_, _, _, _, _, _⟩) (v := ?_) rfl (by kernel_rfl) (by kernel_rfl) (by kernel_rfl) (fun _ _ _ h => h) (Or.inl ⟨by rfl, ?_⟩) (by assumption) ?_
  rotate_left 1
  · intro W' hSw
    go_simp
    try with_reducible rfl
  try simp only [Act.put, List.setIfInBounds_toArray, List.set_cons_zero, List.set_cons_succ]
  refine wpAnyH_take (i := 5) (oi := ⟨_, _, _, _, _, _⟩) (v := ?_) rfl (by kernel_rfl) (by kernel_rfl) (by kernel_rfl) (fun _ _ _ h => h) (Or.inl ⟨by rfl, ?_⟩) (by assumption) ?_
  rotate_left 1
  · intro W' hSw
    go_simp
    try with_reducible rfl
  try simp only [Act.put, List.setIfInBounds_toArray, List.set_cons_zero, List.set_cons_succ]
  refine wpAnyH_take (i := 6) (oi := ⟨_, _, _, _, _, _⟩) (v := ?_) rfl (by kernel_rfl) (by kernel_rfl) (by kernel_rfl) (fun _ _ _ h => h) (Or.inl ⟨by rfl, ?_⟩) (by assumption) ?_
  rotate_left 1
  · intro W' hSw
    go_simp
    try with_reducible rfl
  try simp only [Act.put, List.setIfInBounds_toArray, List.set_cons_zero, List.set_cons_succ]
  refine wpAnyH_ready (rs := [7]) (by kernel_rfl) (by simp) ?_
  refine AllReadyH.cons (o := ⟨_, _, _, _, _, _⟩) rfl (fun K' hK => ?_) AllReadyH.nil
  go_simp
  refine hnd.mono ?_
  rintro en V4 ⟨be, P, O4, A4, rfl, hPT, hPI, hF4, hS4, hbe, hbeo, hbeW⟩
  have hbi4 : blk V4 bi = some IX := hF4.blk (W := V3.drew) HBI.out.1 (by rw [HBI.out.2.2.1]; exact not_isS g)
  dsimp only
  refine hK.out _ _ hbi4 (fun hHeld => ?_)
  clear hK K'
  try simp only [Act.put, List.setIfInBounds_toArray, List.set_cons_zero, List.set_cons_succ]
  refine wpAnyH_take (i := 8) (oi := ⟨_, _, _, _, _, _⟩) (v := ?_) rfl (by kernel_rfl) (by kernel_rfl) (by kernel_rfl) (fun _ _ _ h => h) (Or.inl ⟨by rfl, ?_⟩) (by assumption) ?_
  rotate_left 1
  · intro W' hSw
    go_simp
    try with_reducible rfl
  try simp only [Act.put, List.setIfInBounds_toArray, List.set_cons_zero, List.set_cons_succ]
  refine wpAnyH_take (i := 9) (oi := ⟨_, _, _, _, _, _⟩) (v := ?_) rfl (by kernel_rfl) (by kernel_rfl) (by kernel_rfl) (fun _ _ _ h => h) (Or.inl ⟨by rfl, ?_⟩) (by assumption) ?_
  rotate_left 1
  · intro W' hSw
    go_simp
    try with_reducible rfl
  try simp only [Act.put, List.setIfInBounds_toArray, List.set_cons_zero, List.set_cons_succ]
  refine wpAnyH_take (i := 10) (oi := ⟨_, _, _, _, _, _⟩) (v := ?_) rfl (by kernel_rfl) (by kernel_rfl) (by kernel_rfl) (fun _ _ _ h => h) (Or.inl ⟨by rfl, ?_⟩) (by assumption) ?_
  rotate_left 1
  · intro W' hSw
    go_simp
    try with_reducible rfl
  try simp only [Act.put, List.setIfInBounds_toArray, List.set_cons_zero, List.set_cons_succ]
  refine wpAnyH_take (i := 11) (oi := ⟨_, _, _, _, _, _⟩) (v := ?_) rfl (by kernel_rfl) (by kernel_rfl) (by kernel_rfl) (fun _ _ _ h => h) (Or.inl ⟨by rfl, ?_⟩) (by assumption) ?_
  rotate_left 1
  · intro W' hSw
    go_simp
    try with_reducible rfl
  try simp only [Act.put, List.setIfInBounds_toArray, List.set_cons_zero, List.set_cons_succ]
  refine wpAnyH_take (i := 12) (oi := ⟨_, _, _, _, _, _⟩) (v := ?_) rfl (by kernel_rfl) (by kernel_rfl) (by kernel_rfl) (fun _ _ _ h => h) (Or.inl ⟨by rfl, ?_⟩) (by assumption) ?_
  rotate_left 1
  · intro W' hSw
    go_simp
    try with_reducible rfl
  try simp only [Act.put, List.setIfInBounds_toArray, List.set_cons_zero, List.set_cons_succ]
  refine wpAnyH_done (by kernel_rfl) ?_ _
  have hIS : ∀ k, k < W.heap.size → ¬ isS g (O k) := fun k hk h => HFR.out k hk (isI_S h)
  have hFW : Fr (fun _ => False) O W O4 V4 := HF3.out.drew.fresh hF4 hIS
  have HFW := hid_of hFW
  have HPT : Hid (Fst p P) := ⟨hPT, hPI⟩
  have hfi4 : free V4 bi = true := hF4.free (W := V3.drew) HBI.out.1 HBI.out.2.1 (by rw [HBI.out.2.2.1]; exact not_isS g)
  have hoi4 : O4 bi = .a (2 * g + 1) 0 := (hF4.keep bi (blk_lt (w := V3.drew) HBI.out.1)).trans HBI.out.2.2.1
  have hb14 : blk V4 b1 = some (GProgram.enc x) := hF4.blk (W := V3.drew) HB1'.out.1 (by rw [HB1'.out.2]; exact isS_no g)
  have hb1o4 : O4 b1 = .no := (hF4.keep b1 (blk_lt (w := V3.drew) HB1'.out.1)).trans HB1'.out.2
  cases hov : overB P
  rotate_left 1
  · have HE : Hid (Q (.returned (.tuple #[.pointer none, .int .i64 16])) V4) := by
      show Q _ _
      rw [HQ.out]
      exact ⟨P, HPT.out, HFW.out.toExt, .inl ⟨hov, rfl⟩⟩
    clear hF4 hS4 hFW hPT hPI hov hIS hbe hbeo hbeW hfi4 hoi4 hb14 hb1o4 hnd
    go_wp2_with fail
    try go_ret
    exact HE.out
  rw [hov] at hS4
  have hI4 : ∃ CI, CI = splice IX 5 [.pointer (some ⟨be, 0, none⟩)] ∧ InsM W.heap.size O4 (put V4 bi CI) g bi (newS p P 0) CI bst be A4 ∧ Fr (fun _ => False) O W O4 (put V4 bi CI) := by
    refine ⟨_, rfl, ?_⟩
    have hF5 : Fr (fun l => l = .a (2 * g + 1) 0) O4 V4 O4 (put V4 bi (splice IX 5 [.pointer (some ⟨be, 0, none⟩)])) := (Fr.refl _ _ _).put (L := fun l => l = .a (2 * g + 1) 0) hoi4 _
    have hF6 := hFW.fresh hF5 (fun k hk e => HFR.out k hk ⟨0, .inl e⟩)
    have hnx : ∀ k, nth (splice IX 5 [.pointer (some ⟨be, 0, none⟩)]) k = if k = 5 then some (.pointer (some ⟨be, 0, none⟩)) else nth IX k := fun k => splice_nth (by omega) k
    refine ⟨⟨by rw [blk_put, if_pos rfl, hbi4]; rfl, by rw [free_put]; exact hfi4, hoi4, HBI.out.2.2.2, ⟨by rw [length_splice1 (by omega)]; exact hc4, (HP.out.sub (Sub.ext (core_fr hF6 (fun h => h)))).congr (fun k hk => by rw [hnx, if_neg (by omega), HIX2.out]; exact HIX.out _ hk), by rw [hnx, if_neg (by omega)]; exact i4, by rw [hnx, if_pos rfl], fun y hy => by rw [hnx, if_neg (by omega), HIX2.out, ins_us _ _ hy]; rfl, by rw [hnx, if_neg (by omega), HIX2.out, ins_lv]; rfl⟩, ?_, hbeo, ?_⟩, hF6⟩
    · exact hF5.blk hbe (by rw [hbeo]; exact fun e => by cases e)
    · exact hS4.fr hF5 (fun j e => by have := (Lab.a.inj e).1; omega) (fun e => by cases e)
  obtain ⟨CI, hCI, hI5, hF5⟩ := hI4
  have hb15 : blk (put V4 bi CI) b1 = some (GProgram.enc x) := by
    rw [blk_put, if_neg (fun e : b1 = bi => by rw [e, hoi4] at hb1o4; cases hb1o4)]; exact hb14
  have HI0 : Hid (∃ O', Fr (fun _ => False) O W O' (put V4 bi CI) ∧ InsAt W.heap.size O' (put V4 bi CI) g bi (newS p P 0) ∧ blk (put V4 bi CI) b1 = some (GProgram.enc x) ∧ O' b1 = .no) := ⟨O4, hF5, ⟨CI, bst, be, A4, hI5⟩, hb15, hb1o4⟩
  have HOV := hid_of hov
  rw [hCI] at HI0
  clear hF4 hS4 hFW hPT hPI hov hIS hbe hbeo hbeW hoi4 hb14 hb1o4 hnd hI5 hF5 hb15 hCI
  go_upto_region 7 with fail
  refine wp_world (fun V => ∃ O', Fr (fun _ => False) O W O' V ∧ InsAt W.heap.size O' V g bi (newS p P 0) ∧ blk V b1 = some (GProgram.enc x) ∧ O' b1 = .no) HI0.out ?_
  intro V5 hV5
  have HI5 := hid_of hV5
  clear HI0 hV5 hbi4 hfi4 hbi hb1
  refine wp_loop_f 41 (niI W.heap.size O W g bi b1 p P (GProgram.enc x)) (fun f _ => p.pool.length - (intOf (f 7)).toNat) rfl ⟨rfl, rfl, 0, by omega, rfl, HI5⟩ ?_
  clear HI5
  intro F V hrel
  obtain ⟨f1, f4, i, hi, f7, HI⟩ := hrel
  have H7 := hid_of f7
  rw [frame41n, f1, f4, f7]
  clear f1 f4 f7
  obtain ⟨O5, hF5, hI5, hb1, hb1o⟩ := HI.out
  by_cases hin : i < p.pool.length
  · have hin' : (i : Int) < (p.pool.length : Int) := by omega
    have hrt := retain_any hI5 (newS_UB p P (by omega)) (by omega) i (by omega)
    rw [newS_ret] at hrt
    have HF5 := hid_of hF5
    have HB : Hid (blk V b1 = some (GProgram.enc x) ∧ O5 b1 = .no) := ⟨hb1, hb1o⟩
    clear hF5 hI5 HI hb1o
    go_wp2_with fail
    refine hrt.mono ?_
    rintro en V6 ⟨rfl, O6, hF6, hI6⟩
    have HI' : Hid (∃ O', Fr (fun _ => False) O W O' V6 ∧ InsAt W.heap.size O' V6 g bi (newS p P (i + 1)) ∧ blk V6 b1 = some (GProgram.enc x) ∧ O' b1 = .no) := ⟨O6, HF5.out.fresh hF6 HFR.out, hI6, hF6.blk HB.out.1 (by rw [HB.out.2]; exact isI_no g), (hF6.keep b1 (blk_lt HB.out.1)).trans HB.out.2⟩
    clear hrt hF6 hI6 HF5 HB hb1
    dsimp only
    go_wp2_with fail
    refine ⟨rfl, rfl, ⟨rfl, rfl, i + 1, by omega, ?_, HI'⟩, ?_⟩
    · show Value.int .i64 _ = _
      go_num
    · show p.pool.length - (intOf (Value.int .i64 _)).toNat < p.pool.length - (intOf (F 7)).toNat
      rw [H7.out]
      simp [intOf]; omega
  · have hin' : ¬ (i : Int) < (p.pool.length : Int) := by omega
    obtain rfl : i = p.pool.length := by omega
    have HE : Hid (Q (.returned (.tuple #[.pointer (some ⟨bi, 0, none⟩), .int .i64 0])) V) := by
      show Q _ _
      rw [HQ.out]
      exact ⟨P, HPT.out, hF5.toExt, .inr ⟨HOV.out, bi, O5, rfl, hF5, hI5⟩⟩
    clear hF5 hI5 HI hb1o
    go_wp2_with fail
    try go_ret
    exact HE.out
end Go.Proofs.Qxb6500787aGreat
