
import Derived.Test.Qxb6500787aGreatTn
import Derived.StillTailTactics
import Derived.Deep.QuietTactic
import Derived.BigQuiet
import Derived.Deep.RegionHeld
import Derived.Deep.CutRange
import Derived.Laws.ResultCell
import Derived.Laws.Rows
import Derived.DeepKeys
import Derived.DataBytes
import Derived.Laws.StructEq
import Derived.Laws.AppendOwn
import Derived.Laws.MakeOwn
import Derived.Lib.AppendStr
set_option linter.unusedSimpArgs false
set_option linter.unusedVariables false
namespace Go.Proofs.Qxb6500787aGreat
open Go.RowKit Go.Blk
attribute [local go_sem ↓] execOp_load execOp_store execOp_alloc
attribute [local go_sem] Tryz.ld26 Tryz.st26 Tryz.ld27 Tryz.st27 Tryz.ld28 Tryz.st28 Tryz.ld3 Tryz.st3 Tryz.ld29 Tryz.st29 Tryz.ld44 Tryz.st44 Tryz.ld4 Tryz.st4 Tryz.ld50 Tryz.st50 Tryz.ld32 Tryz.st32 Tryz.ld49 Tryz.st49 Tryz.ld68 Tryz.st68 Tryz.ld9 Tryz.st9 Tryz.ld40 Tryz.st40 Tryz.ld138 Tryz.st138 Tryz.ld139 Tryz.st139 Tryz.ld146 Tryz.st146 Tryz.ld183 Tryz.st183 Tryz.ld184 Tryz.st184 Tryz.ld192 Tryz.st192 Tryz.ld195 Tryz.st195 Tryz.ld217 Tryz.st217 Tryz.ld159 Tryz.st159 Tryz.ld142 Tryz.st142 Tryz.ld2 Tryz.st2 Tryz.ld5 Tryz.st5 Tryz.ld12 Tryz.st12 Tryz.ld21 Tryz.st21 Tryz.ld22 Tryz.st22 Tryz.ld24 Tryz.st24 Tryz.ld58 Tryz.st58 Tryz.ld97 Tryz.st97 Tryz.ld101 Tryz.st101 Tryz.ld116 Tryz.st116 Tryz.ld121 Tryz.st121 Tryz.ld135 Tryz.st135 Tryz.ld136 Tryz.st136 Tryz.ld143 Tryz.st143 Tryz.ld148 Tryz.st148 Tryz.ld154 Tryz.st154 Tryz.ld173 Tryz.st173 Tryz.ld187 Tryz.st187 Tryz.ld222 Tryz.st222 Tryz.ld241 Tryz.st241 Tryz.ld248 Tryz.st248 Tryz.ld268 Tryz.st268 Tryz.ld272 Tryz.st272 Tryz.ld153 Tryz.st153 Tryz.ld255 Tryz.st255 Tryz.ld256 Tryz.st256 Tryz.ld129 Tryz.st129 Tryz.ld152 Tryz.st152 Tryz.ld31 Tryz.st31 Tryz.ld46 Tryz.st46 Tryz.ld52 Tryz.st52 Tryz.ld54 Tryz.st54 Tryz.ld60 Tryz.st60 Tryz.ld70 Tryz.st70 Tryz.ld74 Tryz.st74 Tryz.ld93 Tryz.st93 Tryz.ld141 Tryz.st141 Tryz.ld151 Tryz.st151 Tryz.ld170 Tryz.st170 Tryz.ld186 Tryz.st186 Tryz.ld189 Tryz.st189 Tryz.ld194 Tryz.st194 Tryz.ld197 Tryz.st197 Tryz.ld219 Tryz.st219 Tryz.ld224 Tryz.st224 Tryz.ld230 Tryz.st230 Tryz.ld235 Tryz.st235 Tryz.ld243 Tryz.st243 Tryz.ld247 Tryz.st247 Tryz.ld252 Tryz.st252 Tryz.ld258 Tryz.st258 Tryz.al153 Tryz.al255 Tryz.al256 Tryz.al129 Tryz.al152 Tryz.al31 Tryz.al46 Tryz.al52 Tryz.al54 Tryz.al60 Tryz.al70 Tryz.al74 Tryz.al93 Tryz.al141 Tryz.al151 Tryz.al170 Tryz.al186 Tryz.al189 Tryz.al194 Tryz.al197 Tryz.al219 Tryz.al224 Tryz.al230 Tryz.al235 Tryz.al243 Tryz.al247 Tryz.al252 Tryz.al258
attribute [local go_sem] Request.length_enc Request.ok_enc Request.all_get Request.all_set Request.kind_get Request.kind_set Request.blob_get Request.blob_set Request.items_get Request.items_set Request.pred_get Request.pred_set Request.slots_get Request.slots_set Trace.length_enc Trace.ok_enc Trace.all_get Trace.all_set Trace.op_get Trace.op_set Trace.calls_get Trace.calls_set Item.length_enc Item.ok_enc Item.all_get Item.all_set Item.del_get Item.del_set Item.pred_get Item.pred_set Item.args_get Item.args_set Reply.length_enc Reply.ok_enc Reply.all_get Reply.all_set Reply.code_get Reply.code_set Reply.kind_get Reply.kind_set Reply.index_get Reply.index_set Reply.yes_get Reply.yes_set Reply.preds_get Reply.preds_set Reply.rules_get Reply.rules_set Reply.arity_get Reply.arity_set Reply.rows_get Reply.rows_set Reply.fact_get Reply.fact_set Reply.fact_del_get Reply.fact_del_set Reply.fact_pred_get Reply.fact_pred_set Reply.fact_args_get Reply.fact_args_set GEntry.length_enc GEntry.ok_enc GEntry.all_get GEntry.all_set GEntry.seq_get GEntry.seq_set GEntry.kind_get GEntry.kind_set GEntry.code_get GEntry.code_set GOp.length_enc GOp.ok_enc GOp.all_get GOp.all_set GOp.kind_get GOp.kind_set GOp.raw_get GOp.raw_set Reader.length_enc Reader.ok_enc Reader.all_get Reader.all_set Reader.buf_get Reader.buf_set Reader.at__get Reader.at__set Slot.length_enc Slot.ok_enc Slot.all_get Slot.all_set Slot.bound_get Slot.bound_set Slot.name_get Slot.name_set Session.length_enc Session.ok_enc Session.all_get Session.all_set Session.svc_get Session.svc_set Session.buf_get Session.buf_set Session.closed_get Session.closed_set GProgram.length_enc GProgram.ok_enc GProgram.all_get GProgram.all_set GProgram.pool_get GProgram.pool_set GProgram.preds_get GProgram.preds_set GProgram.rules_get GProgram.rules_set GProgram.strata_get GProgram.strata_set PredInfo.length_enc PredInfo.ok_enc PredInfo.all_get PredInfo.all_set PredInfo.arity_get PredInfo.arity_set PredInfo.base_get PredInfo.base_set PredInfo.stratum_get PredInfo.stratum_set Change.length_enc Change.ok_enc Change.all_get Change.all_set Change.del_get Change.del_set Change.pred_get Change.pred_set Change.t_get Change.t_set Store.length_enc Store.ok_enc Store.all_get Store.all_set Store.names_get Store.names_set Store.arity_get Store.arity_set Store.rows_get Store.rows_set Src.length_enc Src.ok_enc Src.all_get Src.all_set Src.b_get Src.b_set Src.at__get Src.at__set Atom.length_enc Atom.ok_enc Atom.all_get Atom.all_set Atom.pred_get Atom.pred_set Atom.args_get Atom.args_set GRule.length_enc GRule.ok_enc GRule.all_get GRule.all_set GRule.head_get GRule.head_set GRule.body_get GRule.body_set GRule.head_pred_get GRule.head_pred_set GRule.head_args_get GRule.head_args_set Cert.length_enc Cert.ok_enc Cert.all_get Cert.all_set Cert.names_get Cert.names_set Cert.nodes_get Cert.nodes_set Fact.length_enc Fact.ok_enc Fact.all_get Fact.all_set Fact.pred_get Fact.pred_set Fact.t_get Fact.t_set Literal.length_enc Literal.ok_enc Literal.all_get Literal.all_set Literal.neg_get Literal.neg_set Literal.atom_get Literal.atom_set Literal.atom_pred_get Literal.atom_pred_set Literal.atom_args_get Literal.atom_args_set Engine.length_enc Engine.ok_enc Engine.all_get Engine.all_set Engine.prog_get Engine.prog_set Engine.st_get Engine.st_set SrcCertm.length_enc SrcCertm.ok_enc SrcCertm.all_get SrcCertm.all_set SrcCertm.b_get SrcCertm.b_set SrcCertm.at__get SrcCertm.at__set GNode.length_enc GNode.ok_enc GNode.all_get GNode.all_set GNode.rule_get GNode.rule_set GNode.pred_get GNode.pred_set GNode.vals_get GNode.vals_set GNode.refs_get GNode.refs_set Term.length_enc Term.ok_enc Term.all_get Term.all_set Term.var_get Term.var_set Term.n_get Term.n_set Env.length_enc Env.ok_enc Env.all_get Env.all_set Env.val_get Env.val_set Env.set_get Env.set_set
attribute [local go_sem] size_put size_ext blk_put free_put blk_alloc free_alloc blk_drew free_drew blk_ext free_ext lookOr_some putOr_some segAt_some cellAt_some storeIn_some put_put put_alloc_new length_arr ok_arr_u8 ok_arr_u32 ok_arr_u64 ok_arr_i64 ok_arr_sl cellsV_agg cellsV_int cellsV_bool cellsV_string cellsV_pointer cellsV_slice cellsV_sl ok_int ok_bool ok_string ok_pointer ok_slice ok_sl toList_arr seg_arr set_arr nth_splice nth_splice0 seg_splice seg_splice0 splice_splice splice_splice0 length_splice_if
attribute [local go_sem ↓] execOp_box
attribute [local go_sem] box_run nth_arr_u8 put_arr_u8 blk_drewN free_drewN put_drewN blk_raw free_raw
/-- An instance, plainly. -/
structure InsS where
  p : PP
  N : List (List UInt8)
  R : List (List Tup)
  U : Nat → Int
  live : Int
abbrev isI (g : Nat) (l : Lab) : Prop := ∃ j, l = .a (2 * g + 1) j ∨ l = .a (2 * g + 2) j
theorem isI_no (g : Nat) : ¬ isI g .no := by rintro ⟨j, e | e⟩ <;> cases e
theorem isI_S {g : Nat} {l : Lab} (h : isS g l) : isI g l := by obtain ⟨j, e⟩ := h; exact ⟨j, .inr e⟩
theorem not_isS (g : Nat) : ¬ isS g (.a (2 * g + 1) 0) := by rintro ⟨j, e⟩; have := (Lab.a.inj e).1; omega
/-- The instance's cells. -/
structure InC (O : Own) (W : World) (CI : List Value) (s : InsS) (bst be : Nat) : Prop where
  len : CI.length = 263
  pg : PgR (core O W) CI s.p
  c4 : nth CI 4 = some (.pointer (some ⟨bst, 0, none⟩))
  c5 : nth CI 5 = some (.pointer (some ⟨be, 0, none⟩))
  us : ∀ y, y < 256 → nth CI (6 + y) = some (.int .i64 (s.U y))
  lv : nth CI 262 = some (.int .i64 s.live)
theorem PgR.congr {W : World} {CI CI' : List Value} {p : PP} (h : PgR W CI p) (hc : ∀ k, k < 4 → nth CI' k = nth CI k) : PgR W CI' p := by
  obtain ⟨sp, sd, sr, h1, h2, h3, h4, h5⟩ := h
  exact ⟨sp, sd, sr, by rw [hc 0 (by omega)]; exact h1, by rw [hc 1 (by omega)]; exact h2, by rw [hc 2 (by omega)]; exact h3, by rw [hc 3 (by omega)]; exact h4, h5⟩
/-- An instance in memory. -/
structure InsM (B : Nat) (O : Own) (W : World) (g bi : Nat) (s : InsS) (CI : List Value) (bst be : Nat) (A : List Int) : Prop where
  cell : blk W bi = some CI
  fre : free W bi = true
  own : O bi = .a (2 * g + 1) 0
  low : B ≤ bi
  ic : InC O W CI s bst be
  eng : blk W be = some (engE bi bst)
  ego : O be = .no
  st : Sto B O W g bst s.N A s.R
def InsAt (B : Nat) (O : Own) (W : World) (g bi : Nat) (s : InsS) : Prop := ∃ CI bst be A, InsM B O W g bi s CI bst be A
theorem InsM.fr {L : Lab → Prop} {B : Nat} {O O' : Own} {W W' : World} {g bi : Nat} {s : InsS} {CI : List Value} {bst be : Nat} {A : List Int} (h : InsM B O W g bi s CI bst be A) (hf : Fr L O W O' W') (hl : ∀ l, isI g l → ¬ L l) (hn : ¬ L .no) : InsM B O' W' g bi s CI bst be A :=
  ⟨hf.blk h.cell (by rw [h.own]; exact hl _ ⟨0, .inl rfl⟩), hf.free h.cell h.fre (by rw [h.own]; exact hl _ ⟨0, .inl rfl⟩), (hf.keep _ (blk_lt h.cell)).trans h.own, h.low, ⟨h.ic.len, h.ic.pg.sub (Sub.ext (core_fr hf hn)), h.ic.c4, h.ic.c5, h.ic.us, h.ic.lv⟩, hf.blk h.eng (by rw [h.ego]; exact hn), (hf.keep _ (blk_lt h.eng)).trans h.ego, h.st.fr hf (fun j => hl _ ⟨j, .inr rfl⟩) hn⟩
theorem InsAt.fr {L : Lab → Prop} {B : Nat} {O O' : Own} {W W' : World} {g bi : Nat} {s : InsS} (h : InsAt B O W g bi s) (hf : Fr L O W O' W') (hl : ∀ l, isI g l → ¬ L l) (hn : ¬ L .no) : InsAt B O' W' g bi s := by
  obtain ⟨CI, bst, be, A, h⟩ := h
  exact ⟨CI, bst, be, A, h.fr hf hl hn⟩
theorem InsM.ext {B : Nat} {O : Own} {W W' : World} {g bi : Nat} {s : InsS} {CI : List Value} {bst be : Nat} {A : List Int} (h : InsM B O W g bi s CI bst be A) (he : W.Extends W') : InsM B O W' g bi s CI bst be A := h.fr (Fr.of_extends (L := fun _ => False) he) (fun _ _ h => h) (fun h => h)
theorem InsAt.ext {B : Nat} {O : Own} {W W' : World} {g bi : Nat} {s : InsS} (h : InsAt B O W g bi s) (he : W.Extends W') : InsAt B O W' g bi s := h.fr (Fr.of_extends (L := fun _ => False) he) (fun _ _ h => h) (fun h => h)
theorem InsAt.new {B : Nat} {O : Own} {W W' : World} {g bi : Nat} {s : InsS} (h : InsAt B O W g bi s) (he : W.Extends W') : InsAt B (lab O W.heap.size .no) W' g bi s := h.fr (Fr.grow (L := fun _ => False) he) (fun _ _ h => h) (fun h => h)
theorem InsM.new {B : Nat} {O : Own} {W W' : World} {g bi : Nat} {s : InsS} {CI : List Value} {bst be : Nat} {A : List Int} (h : InsM B O W g bi s CI bst be A) (he : W.Extends W') : InsM B (lab O W.heap.size .no) W' g bi s CI bst be A := h.fr (Fr.grow (L := fun _ => False) he) (fun _ _ h => h) (fun h => h)
/-- The store changed. -/
theorem InsM.sto {B : Nat} {O O' : Own} {W W' : World} {g bi : Nat} {s : InsS} {CI : List Value} {bst be : Nat} {A A' : List Int} {N' : List (List UInt8)} {R' : List (List Tup)} (h : InsM B O W g bi s CI bst be A) (hf : Fr (isS g) O W O' W') (hs : Sto B O' W' g bst N' A' R') : InsM B O' W' g bi ⟨s.p, N', R', s.U, s.live⟩ CI bst be A' :=
  ⟨hf.blk h.cell (by rw [h.own]; exact not_isS g), hf.free h.cell h.fre (by rw [h.own]; exact not_isS g), (hf.keep _ (blk_lt h.cell)).trans h.own, h.low, ⟨h.ic.len, h.ic.pg.sub (Sub.ext (core_fr hf (isS_no g))), h.ic.c4, h.ic.c5, h.ic.us, h.ic.lv⟩, hf.blk h.eng (by rw [h.ego]; exact isS_no g), (hf.keep _ (blk_lt h.eng)).trans h.ego, hs⟩
theorem InsM.progL {B : Nat} {O : Own} {W : World} {g bi : Nat} {s : InsS} {CI : List Value} {bst be : Nat} {A : List Int} (h : InsM B O W g bi s CI bst be A) : ProgL O W bi s.p := ⟨CI, h.cell, by rw [h.ic.len]; omega, h.ic.pg⟩
/-- Only block bi is written. -/
structure Only (W : World) (bi : Nat) (V : World) (CI' : List Value) : Prop where
  os : V.os = W.os
  tape : V.tape = W.tape
  output : V.output = W.output
  size : V.heap.size = W.heap.size
  heap : ∀ k : Nat, k ≠ bi → V.heap[k]? = W.heap[k]?
  blk : blk V bi = some CI'
  free : free V bi = true
theorem Only.put {W V : World} {bi : Nat} {C C' : List Value} (h : Only W bi V C) : Only W bi (Blk.put V bi C') C' := ⟨h.os, h.tape, h.output, by rw [size_put]; exact h.size, fun k hk => by rw [heap_put, if_neg hk]; exact h.heap k hk, by rw [blk_put, if_pos rfl, h.blk]; rfl, by rw [free_put]; exact h.free⟩
theorem Only.drew {W V : World} {bi : Nat} {C : List Value} (h : Only W bi V C) : Only W bi V.drew C := ⟨h.os, h.tape, h.output, h.size, h.heap, h.blk, h.free⟩
theorem Only.refl {W : World} {bi : Nat} {C : List Value} (h : Blk.blk W bi = some C) (hf : Blk.free W bi = true) : Only W bi W C := ⟨rfl, rfl, rfl, rfl, fun _ _ => rfl, h, hf⟩
theorem Only.fr {W V : World} {bi : Nat} {C : List Value} (h : Only W bi V C) {L : Lab → Prop} {O : Own} (hl : L (O bi)) : Fr L O W O V := ⟨h.os, h.tape, h.output, by rw [h.size]; omega, fun _ _ => rfl, fun k _ hk => h.heap k (fun e => hk (by rw [e]; exact hl))⟩
/-- The counts changed. -/
theorem InsM.upd {B : Nat} {O : Own} {W V : World} {g bi : Nat} {s : InsS} {CI : List Value} {bst be : Nat} {A : List Int} (h : InsM B O W g bi s CI bst be A) {CI' : List Value} (ho : Only W bi V CI') {U' : Nat → Int} {live' : Int} (hl : CI'.length = 263) (hc : ∀ k, k < 6 → nth CI' k = nth CI k) (hu : ∀ y, y < 256 → nth CI' (6 + y) = some (.int .i64 (U' y))) (hv : nth CI' 262 = some (.int .i64 live')) : InsM B O V g bi ⟨s.p, s.N, s.R, U', live'⟩ CI' bst be A ∧ Fr (isI g) O W O V := by
  have hne : ∀ {b : Nat} {l : Lab}, O b = l → l ≠ .a (2 * g + 1) 0 → b ≠ bi := fun h1 h2 e => by rw [e, h.own] at h1; exact h2 h1.symm
  have hF : Fr (fun l => l = .a (2 * g + 1) 0) O W O V := ho.fr (L := fun l => l = .a (2 * g + 1) 0) h.own
  have hcore := core_fr hF (fun e => by cases e)
  refine ⟨⟨ho.blk, ho.free, h.own, h.low, ⟨hl, (h.ic.pg.sub (Sub.ext hcore)).congr (fun k hk => hc k (by omega)), by rw [hc 4 (by omega)]; exact h.ic.c4, by rw [hc 5 (by omega)]; exact h.ic.c5, hu, hv⟩, ?_, h.ego, ?_⟩, hF.mono (fun l e => ⟨0, .inl e⟩)⟩
  · exact hF.blk h.eng (by rw [h.ego]; exact fun e => by cases e)
  · exact h.st.fr hF (fun j e => by have := (Lab.a.inj e).1; omega) (fun e => by cases e)
/-- One use more or less. -/
def retU (U : Nat → Int) (y : Nat) : Nat → Int := fun z => if z = y then U y + 1 else U z
def relU (U : Nat → Int) (y : Nat) : Nat → Int := fun z => if z = y then U y - 1 else U z
def retS (s : InsS) (y : Nat) : InsS := ⟨s.p, s.N, s.R, retU s.U y, if s.U y = 0 then s.live + 1 else s.live⟩
def relS (s : InsS) (y : Nat) : InsS := ⟨s.p, s.N, s.R, relU s.U y, if s.U y - 1 = 0 then s.live - 1 else s.live⟩
/-- The counts are small. -/
def UB (M : Int) (s : InsS) : Prop := (∀ z, z < 256 → -M ≤ s.U z ∧ s.U z ≤ M) ∧ -M ≤ s.live ∧ s.live ≤ M
theorem UB.ret {M : Int} {s : InsS} (h : UB M s) {y : Nat} (hy : y < 256) : UB (M + 1) (retS s y) := by
  refine ⟨fun z hz => ?_, ?_⟩
  · show -(M + 1) ≤ retU s.U y z ∧ retU s.U y z ≤ M + 1
    unfold retU
    have h1 := h.1 z hz
    have h2 := h.1 y hy
    split <;> omega
  · show -(M + 1) ≤ (if s.U y = 0 then s.live + 1 else s.live) ∧ (if s.U y = 0 then s.live + 1 else s.live) ≤ M + 1
    have h1 := h.2
    split <;> omega
theorem UB.rel {M : Int} {s : InsS} (h : UB M s) {y : Nat} (hy : y < 256) : UB (M + 1) (relS s y) := by
  refine ⟨fun z hz => ?_, ?_⟩
  · show -(M + 1) ≤ relU s.U y z ∧ relU s.U y z ≤ M + 1
    unfold relU
    have h1 := h.1 z hz
    have h2 := h.1 y hy
    split <;> omega
  · show -(M + 1) ≤ (if s.U y - 1 = 0 then s.live - 1 else s.live) ∧ (if s.U y - 1 = 0 then s.live - 1 else s.live) ≤ M + 1
    have h1 := h.2
    split <;> omega
def InsOut (B : Nat) (O : Own) (W : World) (g bi : Nat) (s : InsS) (V : World) : Prop := ∃ O', Fr (isI g) O W O' V ∧ InsAt B O' V g bi s
set_option maxRecDepth 40000 in
set_option maxHeartbeats 4000000 in
theorem retain_any {B : Nat} {O : Own} {W : World} {g bi : Nat} {s : InsS} {M : Int} (h : InsAt B O W g bi s) (hU : UB M s) (hM : M ≤ 1000000000000) (y : Nat) (hy : y < 256) : Calls Tryz.prog 155 #[.pointer (some ⟨bi, 0, none⟩), .int .i64 (y : Int)] W fun e V => e = .returned (.tuple #[]) ∧ InsOut B O W g bi (retS s y) V := by
  obtain ⟨Q, hQ⟩ : ∃ Q : Ending → World → Prop, Q = fun e V => e = .returned (.tuple #[]) ∧ InsOut B O W g bi (retS s y) V := ⟨_, rfl⟩
  rw [← hQ]
  have HQ := hid_of hQ
  obtain ⟨CI, bst, be, A, hm⟩ := h
  have hb := hm.cell
  have hf := hm.fre
  have hl := hm.ic.len
  have hu := hm.ic.us y hy
  have hlv := hm.ic.lv
  have hb1 := (hU.1 y hy)
  have hb2 := hU.2
  have HM := hid_of hm
  have l1 : 6 + y < CI.length := by omega
  have l2 : 262 < CI.length := by omega
  have l1' : 6 + y + 1 ≤ CI.length := by omega
  have l2' : 262 + 1 ≤ CI.length := by omega
  have y0 : (0 : Int) ≤ (y : Int) := by omega
  have y1 : (y : Int) < 256 := by omega
  have y2 : ((y : Int)).toNat = y := by omega
  obtain ⟨uv, huv⟩ : ∃ uv, uv = s.U y := ⟨_, rfl⟩
  obtain ⟨lv, hlv'⟩ : ∃ lv, lv = s.live := ⟨_, rfl⟩
  rw [← huv] at hu hb1
  rw [← hlv'] at hlv hb2
  have HUV := hid_of huv
  have HLV := hid_of hlv'
  have key : ∀ (V : World) (CI' : List Value), Only W bi V CI' → CI' = splice (if uv = 0 then splice CI 262 [.int .i64 (lv + 1)] else CI) (6 + y) [.int .i64 (uv + 1)] → Q (.returned (.tuple #[])) V := by
    intro V CI' ho hC
    rw [HQ.out]
    refine ⟨rfl, O, ?_⟩
    have hl1 : (if uv = 0 then splice CI 262 [.int .i64 (lv + 1)] else CI).length = 263 := by
      split
      · rw [length_splice1 l2]; exact HM.out.ic.len
      · exact HM.out.ic.len
    have hnx : ∀ k, nth CI' k = if k = 6 + y then some (.int .i64 (uv + 1)) else if uv = 0 ∧ k = 262 then some (.int .i64 (lv + 1)) else nth CI k := by
      intro k
      rw [hC, splice_nth (by rw [hl1]; omega)]
      by_cases h1 : k = 6 + y
      · rw [if_pos h1, if_pos h1]
      · rw [if_neg h1, if_neg h1]
        by_cases h2 : uv = 0
        · rw [if_pos h2, splice_nth l2]
          by_cases h3 : k = 262
          · rw [if_pos h3, if_pos ⟨h2, h3⟩]
          · rw [if_neg h3, if_neg (fun h => h3 h.2)]
        · rw [if_neg h2, if_neg (fun h => h2 h.1)]
    obtain ⟨h1, h2⟩ := HM.out.upd ho (U' := retU s.U y) (live' := if s.U y = 0 then s.live + 1 else s.live) (by rw [hC, length_splice1 (by rw [hl1]; omega)]; exact hl1) (fun k hk => by rw [hnx, if_neg (by omega), if_neg (by omega)]) (fun z hz => by
      rw [hnx]
      unfold retU
      by_cases h1 : z = y
      · rw [if_pos (by omega), if_pos h1, HUV.out]
      · rw [if_neg (by omega), if_neg (by omega), if_neg h1]; exact HM.out.ic.us z hz) (by
      rw [hnx, if_neg (by omega), ← HUV.out, ← HLV.out]
      by_cases h1 : uv = 0
      · rw [if_pos ⟨h1, rfl⟩, if_pos h1]
      · rw [if_neg (fun h => h1 h.1), if_neg h1, HLV.out]; exact HM.out.ic.lv)
    exact ⟨h2, CI', bst, be, A, h1⟩
  have hw1 : IntKind.i64.wrap (uv + 1) = uv + 1 := by rw [IntKind.wrap_i64]; omega
  have HKEY := hid_of key
  have HO0 := hid_of (Only.refl hb hf)
  clear hQ hm hl hU huv hlv' key
  go_enter Tryz.func155, Tryz.ntmps155
  by_cases hz : uv = 0
  · have hzz : (uv == 0) = true := by simp [hz]
    have HKEY2 : Hid (∀ (V : World), Only W bi V (splice (splice CI 262 [.int .i64 (lv + 1)]) (6 + y) [.int .i64 (uv + 1)]) → Q (.returned (.tuple #[])) V) := fun V ho => HKEY.out V _ ho (by rw [if_pos hz])
    have hn2 : nth (splice CI 262 [.int .i64 (lv + 1)]) (6 + y) = some (.int .i64 uv) := by rw [splice_nth l2, if_neg (by omega)]; exact hu
    have hl2 : (splice CI 262 [.int .i64 (lv + 1)]).length = CI.length := length_splice1 l2
    have m1 : 6 + y < (splice CI 262 [.int .i64 (lv + 1)]).length := by omega
    have m1' : 6 + y + 1 ≤ (splice CI 262 [.int .i64 (lv + 1)]).length := by omega
    obtain ⟨CJ, hCJ⟩ : ∃ CJ, CJ = splice CI 262 [.int .i64 (lv + 1)] := ⟨_, rfl⟩
    rw [← hCJ] at hn2 m1 m1' HKEY2
    clear hl2 HKEY
    go_upto_region 2 with fail
    refine wp_world (fun V => Only W bi V CJ) (by rw [hCJ]; exact HO0.out.put) ?_
    intro V1 hV1
    have hb1 := hV1.blk
    have hf1 := hV1.free
    have HV1 := hid_of hV1
    clear hV1 hCJ hb hf hu hlv HO0 hz hzz
    refine wp_region_held_drew (S := fun W' => True) (by kernel_rfl) trivial (fun hHeld => ?_)
    refine wpAnyH_take (i := 0) (oi := ⟨_, _, _, _, _, _⟩) (v := ?_) rfl (by kernel_rfl) (by kernel_rfl) (by kernel_rfl) (fun _ _ _ h => h) (Or.inl ⟨by rfl, ?_⟩) (by assumption) ?_
    rotate_left 1
    · intro W' hSw
      go_simp
      try with_reducible rfl
    try simp only [Act.put, List.setIfInBounds_toArray, List.set_cons_zero, List.set_cons_succ]
    refine wpAnyH_take (i := 1) (oi := ⟨_, _, _, _, _, _⟩) (v := ?_) rfl (by kernel_rfl) (by kernel_rfl) (by kernel_rfl) (fun _ _ _ h => h) (Or.inl ⟨by rfl, ?_⟩) (by assumption) ?_
    rotate_left 1
    · intro W' hSw
      go_simp
      try with_reducible rfl
    try simp only [Act.put, List.setIfInBounds_toArray, List.set_cons_zero, List.set_cons_succ]
    refine wpAnyH_take (i := 2) (oi := ⟨_, _, _, _, _, _⟩) (v := ?_) rfl (by kernel_rfl) (by kernel_rfl) (by kernel_rfl) (fun _ _ _ h => h) (Or.inl ⟨by rfl, ?_⟩) (by assumption) ?_
    rotate_left 1
    · intro W' hSw
      go_simp
      try with_reducible rfl
    try simp only [Act.put, List.setIfInBounds_toArray, List.set_cons_zero, List.set_cons_succ]
    refine wpAnyH_take (i := 3) (oi := ⟨_, _, _, _, _, _⟩) (v := ?_) rfl (by kernel_rfl) (by kernel_rfl) (by kernel_rfl) (fun _ _ _ h => h) (Or.inl ⟨by rfl, ?_⟩) (by assumption) ?_
    rotate_left 1
    · intro W' hSw
      go_simp
      try with_reducible rfl
    try simp only [Act.put, List.setIfInBounds_toArray, List.set_cons_zero, List.set_cons_succ]
    refine wpAnyH_take (i := 4) (oi := ⟨_, _, _, _, _, _⟩) (v := ?_) rfl (by kernel_rfl) (by kernel_rfl) (by kernel_rfl) (fun _ _ _ h => h) (Or.inl ⟨by rfl, ?_⟩) (by assumption) ?_
    rotate_left 1
    · intro W' hSw
      go_simp
      try with_reducible rfl
    try simp only [Act.put, List.setIfInBounds_toArray, List.set_cons_zero, List.set_cons_succ]
    refine wpAnyH_take (i := 7) (oi := ⟨_, _, _, _, _, _⟩) (v := ?_) rfl (by kernel_rfl) (by kernel_rfl) (by kernel_rfl) (fun _ _ _ h => h) (Or.inl ⟨by rfl, ?_⟩) (by assumption) ?_
    rotate_left 1
    · intro W' hSw
      go_simp
      try with_reducible rfl
    try simp only [Act.put, List.setIfInBounds_toArray, List.set_cons_zero, List.set_cons_succ]
    refine wpAnyH_take (i := 8) (oi := ⟨_, _, _, _, _, _⟩) (v := ?_) rfl (by kernel_rfl) (by kernel_rfl) (by kernel_rfl) (fun _ _ _ h => h) (Or.inl ⟨by rfl, ?_⟩) (by assumption) ?_
    rotate_left 1
    · intro W' hSw
      go_simp
      try with_reducible rfl
    try simp only [Act.put, List.setIfInBounds_toArray, List.set_cons_zero, List.set_cons_succ]
    refine wpAnyH_ready (rs := [5]) (by kernel_rfl) (by simp) ?_
    refine AllReadyH.cons (o := ⟨_, _, _, _, _, _⟩) rfl (fun K' hK => ?_) AllReadyH.nil
    go_simp
    refine hK.out _ _ trivial (fun hHeld => ?_)
    clear hK K'
    try simp only [Act.put, List.setIfInBounds_toArray, List.set_cons_zero, List.set_cons_succ]
    refine wpAnyH_take (i := 6) (oi := ⟨_, _, _, _, _, _⟩) (v := ?_) rfl (by kernel_rfl) (by kernel_rfl) (by kernel_rfl) (fun _ _ _ h => h) (Or.inl ⟨by rfl, ?_⟩) (by assumption) ?_
    rotate_left 1
    · intro W' hSw
      go_simp
      try with_reducible rfl
    try simp only [Act.put, List.setIfInBounds_toArray, List.set_cons_zero, List.set_cons_succ]
    refine wpAnyH_take (i := 9) (oi := ⟨_, _, _, _, _, _⟩) (v := ?_) rfl (by kernel_rfl) (by kernel_rfl) (by kernel_rfl) (fun _ _ _ h => h) (Or.inl ⟨by rfl, ?_⟩) (by assumption) ?_
    rotate_left 1
    · intro W' hSw
      go_simp
      try with_reducible rfl
    try simp only [Act.put, List.setIfInBounds_toArray, List.set_cons_zero, List.set_cons_succ]
    refine wpAnyH_ready (rs := [10]) (by kernel_rfl) (by simp) ?_
    refine AllReadyH.cons (o := ⟨_, _, _, _, _, _⟩) rfl (fun K' hK => ?_) AllReadyH.nil
    go_simp
    refine hK.out _ _ trivial (fun hHeld => ?_)
    clear hK K'
    try simp only [Act.put, List.setIfInBounds_toArray, List.set_cons_zero, List.set_cons_succ]
    refine wpAnyH_done (by kernel_rfl) ?_ _
    go_wp2_with fail
    go_end0
    exact HKEY2.out _ HV1.out.drew.put
  · have hzz : (uv == 0) = false := by simp [hz]
    have HKEY2 : Hid (∀ (V : World), Only W bi V (splice CI (6 + y) [.int .i64 (uv + 1)]) → Q (.returned (.tuple #[])) V) := fun V ho => HKEY.out V _ ho (by rw [if_neg hz])
    clear HKEY
    go_upto_region 2 with fail
    clear hz hzz
    refine wp_region_held_drew (S := fun W' => True) (by kernel_rfl) trivial (fun hHeld => ?_)
    refine wpAnyH_take (i := 0) (oi := ⟨_, _, _, _, _, _⟩) (v := ?_) rfl (by kernel_rfl) (by kernel_rfl) (by kernel_rfl) (fun _ _ _ h => h) (Or.inl ⟨by rfl, ?_⟩) (by assumption) ?_
    rotate_left 1
    · intro W' hSw
      go_simp
      try with_reducible rfl
    try simp only [Act.put, List.setIfInBounds_toArray, List.set_cons_zero, List.set_cons_succ]
    refine wpAnyH_take (i := 1) (oi := ⟨_, _, _, _, _, _⟩) (v := ?_) rfl (by kernel_rfl) (by kernel_rfl) (by kernel_rfl) (fun _ _ _ h => h) (Or.inl ⟨by rfl, ?_⟩) (by assumption) ?_
    rotate_left 1
    · intro W' hSw
      go_simp
      try with_reducible rfl
    try simp only [Act.put, List.setIfInBounds_toArray, List.set_cons_zero, List.set_cons_succ]
    refine wpAnyH_take (i := 2) (oi := ⟨_, _, _, _, _, _⟩) (v := ?_) rfl (by kernel_rfl) (by kernel_rfl) (by kernel_rfl) (fun _ _ _ h => h) (Or.inl ⟨by rfl, ?_⟩) (by assumption) ?_
    rotate_left 1
    · intro W' hSw
      go_simp
      try with_reducible rfl
    try simp only [Act.put, List.setIfInBounds_toArray, List.set_cons_zero, List.set_cons_succ]
    refine wpAnyH_take (i := 3) (oi := ⟨_, _, _, _, _, _⟩) (v := ?_) rfl (by kernel_rfl) (by kernel_rfl) (by kernel_rfl) (fun _ _ _ h => h) (Or.inl ⟨by rfl, ?_⟩) (by assumption) ?_
    rotate_left 1
    · intro W' hSw
      go_simp
      try with_reducible rfl
    try simp only [Act.put, List.setIfInBounds_toArray, List.set_cons_zero, List.set_cons_succ]
    refine wpAnyH_take (i := 4) (oi := ⟨_, _, _, _, _, _⟩) (v := ?_) rfl (by kernel_rfl) (by kernel_rfl) (by kernel_rfl) (fun _ _ _ h => h) (Or.inl ⟨by rfl, ?_⟩) (by assumption) ?_
    rotate_left 1
    · intro W' hSw
      go_simp
      try with_reducible rfl
    try simp only [Act.put, List.setIfInBounds_toArray, List.set_cons_zero, List.set_cons_succ]
    refine wpAnyH_take (i := 7) (oi := ⟨_, _, _, _, _, _⟩) (v := ?_) rfl (by kernel_rfl) (by kernel_rfl) (by kernel_rfl) (fun _ _ _ h => h) (Or.inl ⟨by rfl, ?_⟩) (by assumption) ?_
    rotate_left 1
    · intro W' hSw
      go_simp
      try with_reducible rfl
    try simp only [Act.put, List.setIfInBounds_toArray, List.set_cons_zero, List.set_cons_succ]
    refine wpAnyH_take (i := 8) (oi := ⟨_, _, _, _, _, _⟩) (v := ?_) rfl (by kernel_rfl) (by kernel_rfl) (by kernel_rfl) (fun _ _ _ h => h) (Or.inl ⟨by rfl, ?_⟩) (by assumption) ?_
    rotate_left 1
    · intro W' hSw
      go_simp
      try with_reducible rfl
    try simp only [Act.put, List.setIfInBounds_toArray, List.set_cons_zero, List.set_cons_succ]
    refine wpAnyH_ready (rs := [5]) (by kernel_rfl) (by simp) ?_
    refine AllReadyH.cons (o := ⟨_, _, _, _, _, _⟩) rfl (fun K' hK => ?_) AllReadyH.nil
    go_simp
    refine hK.out _ _ trivial (fun hHeld => ?_)
    clear hK K'
    try simp only [Act.put, List.setIfInBounds_toArray, List.set_cons_zero, List.set_cons_succ]
    refine wpAnyH_take (i := 6) (oi := ⟨_, _, _, _, _, _⟩) (v := ?_) rfl (by kernel_rfl) (by kernel_rfl) (by kernel_rfl) (fun _ _ _ h => h) (Or.inl ⟨by rfl, ?_⟩) (by assumption) ?_
    rotate_left 1
    · intro W' hSw
      go_simp
      try with_reducible rfl
    try simp only [Act.put, List.setIfInBounds_toArray, List.set_cons_zero, List.set_cons_succ]
    refine wpAnyH_take (i := 9) (oi := ⟨_, _, _, _, _, _⟩) (v := ?_) rfl (by kernel_rfl) (by kernel_rfl) (by kernel_rfl) (fun _ _ _ h => h) (Or.inl ⟨by rfl, ?_⟩) (by assumption) ?_
    rotate_left 1
    · intro W' hSw
      go_simp
      try with_reducible rfl
    try simp only [Act.put, List.setIfInBounds_toArray, List.set_cons_zero, List.set_cons_succ]
    refine wpAnyH_ready (rs := [10]) (by kernel_rfl) (by simp) ?_
    refine AllReadyH.cons (o := ⟨_, _, _, _, _, _⟩) rfl (fun K' hK => ?_) AllReadyH.nil
    go_simp
    refine hK.out _ _ trivial (fun hHeld => ?_)
    clear hK K'
    try simp only [Act.put, List.setIfInBounds_toArray, List.set_cons_zero, List.set_cons_succ]
    refine wpAnyH_done (by kernel_rfl) ?_ _
    go_wp2_with fail
    go_end0
    exact HKEY2.out _ HO0.out.drew.put
set_option maxRecDepth 40000 in
set_option maxHeartbeats 4000000 in
theorem release_any {B : Nat} {O : Own} {W : World} {g bi : Nat} {s : InsS} {M : Int} (h : InsAt B O W g bi s) (hU : UB M s) (hM : M ≤ 1000000000000) (y : Nat) (hy : y < 256) : Calls Tryz.prog 159 #[.pointer (some ⟨bi, 0, none⟩), .int .i64 (y : Int)] W fun e V => e = .returned (.tuple #[]) ∧ InsOut B O W g bi (relS s y) V := by
  obtain ⟨Q, hQ⟩ : ∃ Q : Ending → World → Prop, Q = fun e V => e = .returned (.tuple #[]) ∧ InsOut B O W g bi (relS s y) V := ⟨_, rfl⟩
  rw [← hQ]
  have HQ := hid_of hQ
  obtain ⟨CI, bst, be, A, hm⟩ := h
  have hb := hm.cell
  have hf := hm.fre
  have hl := hm.ic.len
  have hu := hm.ic.us y hy
  have hlv := hm.ic.lv
  have hb1 := (hU.1 y hy)
  have hb2 := hU.2
  have HM := hid_of hm
  have l1 : 6 + y < CI.length := by omega
  have l2 : 262 < CI.length := by omega
  have l1' : 6 + y + 1 ≤ CI.length := by omega
  have l2' : 262 + 1 ≤ CI.length := by omega
  have y0 : (0 : Int) ≤ (y : Int) := by omega
  have y1 : (y : Int) < 256 := by omega
  have y2 : ((y : Int)).toNat = y := by omega
  obtain ⟨uv, huv⟩ : ∃ uv, uv = s.U y := ⟨_, rfl⟩
  obtain ⟨lv, hlv'⟩ : ∃ lv, lv = s.live := ⟨_, rfl⟩
  rw [← huv] at hu hb1
  rw [← hlv'] at hlv hb2
  have HUV := hid_of huv
  have HLV := hid_of hlv'
  have key : ∀ (V : World) (CI' : List Value), Only W bi V CI' → CI' = (if uv - 1 = 0 then splice (splice CI (6 + y) [.int .i64 (uv - 1)]) 262 [.int .i64 (lv - 1)] else splice CI (6 + y) [.int .i64 (uv - 1)]) → Q (.returned (.tuple #[])) V := by
    intro V CI' ho hC
    rw [HQ.out]
    refine ⟨rfl, O, ?_⟩
    have hl1 : (splice CI (6 + y) [.int .i64 (uv - 1)]).length = 263 := by rw [length_splice1 l1]; exact HM.out.ic.len
    have hnx : ∀ k, nth CI' k = if k = 6 + y then some (.int .i64 (uv - 1)) else if uv - 1 = 0 ∧ k = 262 then some (.int .i64 (lv - 1)) else nth CI k := by
      intro k
      rw [hC]
      by_cases h2 : uv - 1 = 0
      · rw [if_pos h2, splice_nth (by rw [hl1]; omega), splice_nth l1]
        by_cases h3 : k = 262
        · rw [if_pos h3, if_neg (by omega), if_pos ⟨h2, h3⟩]
        · rw [if_neg h3, if_neg (c := uv - 1 = 0 ∧ k = 262) (fun h => h3 h.2)]
      · rw [if_neg h2, splice_nth l1, if_neg (c := uv - 1 = 0 ∧ k = 262) (fun h => h2 h.1)]
    obtain ⟨h1, h2⟩ := HM.out.upd ho (U' := relU s.U y) (live' := if s.U y - 1 = 0 then s.live - 1 else s.live) (by
      rw [hC]
      split
      · rw [length_splice1 (by rw [hl1]; omega)]; exact hl1
      · exact hl1) (fun k hk => by rw [hnx, if_neg (by omega), if_neg (by omega)]) (fun z hz => by
      rw [hnx]
      unfold relU
      by_cases h1 : z = y
      · rw [if_pos (by omega), if_pos h1, HUV.out]
      · rw [if_neg (by omega), if_neg (by omega), if_neg h1]; exact HM.out.ic.us z hz) (by
      rw [hnx, if_neg (by omega), ← HUV.out, ← HLV.out]
      by_cases h1 : uv - 1 = 0
      · rw [if_pos ⟨h1, rfl⟩, if_pos h1]
      · rw [if_neg (fun h => h1 h.1), if_neg h1, HLV.out]; exact HM.out.ic.lv)
    exact ⟨h2, CI', bst, be, A, h1⟩
  have hw1 : IntKind.i64.wrap (uv - 1) = uv - 1 := by rw [IntKind.wrap_i64]; omega
  have HKEY := hid_of key
  have HO0 := hid_of (Only.refl hb hf)
  have hn2 : nth (splice CI (6 + y) [.int .i64 (uv - 1)]) (6 + y) = some (.int .i64 (uv - 1)) := by rw [splice_nth l1, if_pos rfl]
  have hn3 : nth (splice CI (6 + y) [.int .i64 (uv - 1)]) 262 = some (.int .i64 lv) := by rw [splice_nth l1, if_neg (by omega)]; exact hlv
  have hl2 : (splice CI (6 + y) [.int .i64 (uv - 1)]).length = CI.length := length_splice1 l1
  have m1 : 6 + y < (splice CI (6 + y) [.int .i64 (uv - 1)]).length := by omega
  have m2 : 262 < (splice CI (6 + y) [.int .i64 (uv - 1)]).length := by omega
  have m2' : 262 + 1 ≤ (splice CI (6 + y) [.int .i64 (uv - 1)]).length := by omega
  clear hQ hm hl hU huv hlv' key hlv hl2
  go_enter Tryz.func159, Tryz.ntmps159
  go_upto_region 0 with fail
  refine wp_region_held_drew (S := fun W' => True) (by kernel_rfl) trivial (fun hHeld => ?_)
  refine wpAnyH_take (i := 0) (oi := ⟨_, _, _, _, _, _⟩) (v := ?_) rfl (by kernel_rfl) (by kernel_rfl) (by kernel_rfl) (fun _ _ _ h => h) (Or.inl ⟨by rfl, ?_⟩) (by assumption) ?_
  rotate_left 1
  · intro W' hSw
    go_simp
    try with_reducible rfl
  try simp only [Act.put, List.setIfInBounds_toArray, List.set_cons_zero, List.set_cons_succ]
  refine wpAnyH_take (i := 1) (oi := ⟨_, _, _, _, _, _⟩) (v := ?_) rfl (by kernel_rfl) (by kernel_rfl) (by kernel_rfl) (fun _ _ _ h => h) (Or.inl ⟨by rfl, ?_⟩) (by assumption) ?_
  rotate_left 1
  · intro W' hSw
    go_simp
    try with_reducible rfl
  try simp only [Act.put, List.setIfInBounds_toArray, List.set_cons_zero, List.set_cons_succ]
  refine wpAnyH_take (i := 2) (oi := ⟨_, _, _, _, _, _⟩) (v := ?_) rfl (by kernel_rfl) (by kernel_rfl) (by kernel_rfl) (fun _ _ _ h => h) (Or.inl ⟨by rfl, ?_⟩) (by assumption) ?_
  rotate_left 1
  · intro W' hSw
    go_simp
    try with_reducible rfl
  try simp only [Act.put, List.setIfInBounds_toArray, List.set_cons_zero, List.set_cons_succ]
  refine wpAnyH_take (i := 3) (oi := ⟨_, _, _, _, _, _⟩) (v := ?_) rfl (by kernel_rfl) (by kernel_rfl) (by kernel_rfl) (fun _ _ _ h => h) (Or.inl ⟨by rfl, ?_⟩) (by assumption) ?_
  rotate_left 1
  · intro W' hSw
    go_simp
    try with_reducible rfl
  try simp only [Act.put, List.setIfInBounds_toArray, List.set_cons_zero, List.set_cons_succ]
  refine wpAnyH_take (i := 4) (oi := ⟨_, _, _, _, _, _⟩) (v := ?_) rfl (by kernel_rfl) (by kernel_rfl) (by kernel_rfl) (fun _ _ _ h => h) (Or.inl ⟨by rfl, ?_⟩) (by assumption) ?_
  rotate_left 1
  · intro W' hSw
    go_simp
    try with_reducible rfl
  try simp only [Act.put, List.setIfInBounds_toArray, List.set_cons_zero, List.set_cons_succ]
  refine wpAnyH_take (i := 7) (oi := ⟨_, _, _, _, _, _⟩) (v := ?_) rfl (by kernel_rfl) (by kernel_rfl) (by kernel_rfl) (fun _ _ _ h => h) (Or.inl ⟨by rfl, ?_⟩) (by assumption) ?_
  rotate_left 1
  · intro W' hSw
    go_simp
    try with_reducible rfl
  try simp only [Act.put, List.setIfInBounds_toArray, List.set_cons_zero, List.set_cons_succ]
  refine wpAnyH_take (i := 8) (oi := ⟨_, _, _, _, _, _⟩) (v := ?_) rfl (by kernel_rfl) (by kernel_rfl) (by kernel_rfl) (fun _ _ _ h => h) (Or.inl ⟨by rfl, ?_⟩) (by assumption) ?_
  rotate_left 1
  · intro W' hSw
    go_simp
    try with_reducible rfl
  try simp only [Act.put, List.setIfInBounds_toArray, List.set_cons_zero, List.set_cons_succ]
  refine wpAnyH_ready (rs := [5]) (by kernel_rfl) (by simp) ?_
  refine AllReadyH.cons (o := ⟨_, _, _, _, _, _⟩) rfl (fun K' hK => ?_) AllReadyH.nil
  go_simp
  refine hK.out _ _ trivial (fun hHeld => ?_)
  clear hK K'
  try simp only [Act.put, List.setIfInBounds_toArray, List.set_cons_zero, List.set_cons_succ]
  refine wpAnyH_take (i := 6) (oi := ⟨_, _, _, _, _, _⟩) (v := ?_) rfl (by kernel_rfl) (by kernel_rfl) (by kernel_rfl) (fun _ _ _ h => h) (Or.inl ⟨by rfl, ?_⟩) (by assumption) ?_
  rotate_left 1
  · intro W' hSw
    go_simp
    try with_reducible rfl
  try simp only [Act.put, List.setIfInBounds_toArray, List.set_cons_zero, List.set_cons_succ]
  refine wpAnyH_take (i := 9) (oi := ⟨_, _, _, _, _, _⟩) (v := ?_) rfl (by kernel_rfl) (by kernel_rfl) (by kernel_rfl) (fun _ _ _ h => h) (Or.inl ⟨by rfl, ?_⟩) (by assumption) ?_
  rotate_left 1
  · intro W' hSw
    go_simp
    try with_reducible rfl
  try simp only [Act.put, List.setIfInBounds_toArray, List.set_cons_zero, List.set_cons_succ]
  refine wpAnyH_ready (rs := [10]) (by kernel_rfl) (by simp) ?_
  refine AllReadyH.cons (o := ⟨_, _, _, _, _, _⟩) rfl (fun K' hK => ?_) AllReadyH.nil
  go_simp
  refine hK.out _ _ trivial (fun hHeld => ?_)
  clear hK K'
  try simp only [Act.put, List.setIfInBounds_toArray, List.set_cons_zero, List.set_cons_succ]
  refine wpAnyH_done (by kernel_rfl) ?_ _
  obtain ⟨CJ, hCJ⟩ : ∃ CJ, CJ = splice CI (6 + y) [.int .i64 (uv - 1)] := ⟨_, rfl⟩
  rw [← hCJ] at hn2 hn3 m1 m2 m2' HKEY
  go_upto_region 1 with fail
  refine wp_world (fun V => Only W bi V CJ) (by rw [hCJ]; exact HO0.out.drew.put) ?_
  intro V1 hV1
  have hb3 := hV1.blk
  have hf3 := hV1.free
  have HV1 := hid_of hV1
  clear hV1 hCJ hb hf hu HO0
  by_cases hz : uv - 1 = 0
  · have hzz : (uv - 1 == 0) = true := by simp [hz]
    have HKEY2 : Hid (∀ (V : World), Only W bi V (splice CJ 262 [.int .i64 (lv - 1)]) → Q (.returned (.tuple #[])) V) := fun V ho => HKEY.out V _ ho (by rw [if_pos hz])
    obtain ⟨u1, hu1⟩ : ∃ u1, u1 = uv - 1 := ⟨_, rfl⟩
    rw [← hu1] at hn2 hzz
    clear HKEY hz hu1 hw1
    go_wp2_with fail
    go_end0
    exact HKEY2.out _ HV1.out.put
  · have hzz : (uv - 1 == 0) = false := by simp [hz]
    have HKEY2 : Hid (∀ (V : World), Only W bi V CJ → Q (.returned (.tuple #[])) V) := fun V ho => HKEY.out V _ ho (by rw [if_neg hz])
    obtain ⟨u1, hu1⟩ : ∃ u1, u1 = uv - 1 := ⟨_, rfl⟩
    rw [← hu1] at hn2 hzz
    clear HKEY hz hu1 hw1
    go_wp2_with fail
    go_end0
    exact HKEY2.out _ HV1.out
end Go.Proofs.Qxb6500787aGreat
