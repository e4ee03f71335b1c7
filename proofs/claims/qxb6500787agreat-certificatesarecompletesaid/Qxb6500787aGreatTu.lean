
import Derived.Test.Qxb6500787aGreatTt
import Derived.StillTailTactics
import Derived.Deep.QuietTactic
import Derived.BigQuiet
import Derived.Deep.RegionHeld
import Derived.Deep.CutRange
import Derived.Laws.ResultCell
import Derived.Laws.Rows
import Derived.DeepKeys
import Derived.DataBytes
import Derived.Laws.StructEq
import Derived.Laws.AppendOwn
import Derived.Laws.MakeOwn
import Derived.Lib.AppendStr
set_option linter.unusedSimpArgs false
set_option linter.unusedVariables false
namespace Go.Proofs.Qxb6500787aGreat
open Go.RowKit Go.Blk
attribute [local go_sem ↓] execOp_load execOp_store execOp_alloc
attribute [local go_sem] Tryz.ld26 Tryz.st26 Tryz.ld27 Tryz.st27 Tryz.ld28 Tryz.st28 Tryz.ld3 Tryz.st3 Tryz.ld29 Tryz.st29 Tryz.ld44 Tryz.st44 Tryz.ld4 Tryz.st4 Tryz.ld50 Tryz.st50 Tryz.ld32 Tryz.st32 Tryz.ld49 Tryz.st49 Tryz.ld68 Tryz.st68 Tryz.ld9 Tryz.st9 Tryz.ld40 Tryz.st40 Tryz.ld138 Tryz.st138 Tryz.ld139 Tryz.st139 Tryz.ld146 Tryz.st146 Tryz.ld183 Tryz.st183 Tryz.ld184 Tryz.st184 Tryz.ld192 Tryz.st192 Tryz.ld195 Tryz.st195 Tryz.ld217 Tryz.st217 Tryz.ld159 Tryz.st159 Tryz.ld142 Tryz.st142 Tryz.ld2 Tryz.st2 Tryz.ld5 Tryz.st5 Tryz.ld12 Tryz.st12 Tryz.ld21 Tryz.st21 Tryz.ld22 Tryz.st22 Tryz.ld24 Tryz.st24 Tryz.ld58 Tryz.st58 Tryz.ld97 Tryz.st97 Tryz.ld101 Tryz.st101 Tryz.ld116 Tryz.st116 Tryz.ld121 Tryz.st121 Tryz.ld135 Tryz.st135 Tryz.ld136 Tryz.st136 Tryz.ld143 Tryz.st143 Tryz.ld148 Tryz.st148 Tryz.ld154 Tryz.st154 Tryz.ld173 Tryz.st173 Tryz.ld187 Tryz.st187 Tryz.ld222 Tryz.st222 Tryz.ld241 Tryz.st241 Tryz.ld248 Tryz.st248 Tryz.ld268 Tryz.st268 Tryz.ld272 Tryz.st272 Tryz.ld153 Tryz.st153 Tryz.ld255 Tryz.st255 Tryz.ld256 Tryz.st256 Tryz.ld129 Tryz.st129 Tryz.ld152 Tryz.st152 Tryz.ld31 Tryz.st31 Tryz.ld46 Tryz.st46 Tryz.ld52 Tryz.st52 Tryz.ld54 Tryz.st54 Tryz.ld60 Tryz.st60 Tryz.ld70 Tryz.st70 Tryz.ld74 Tryz.st74 Tryz.ld93 Tryz.st93 Tryz.ld141 Tryz.st141 Tryz.ld151 Tryz.st151 Tryz.ld170 Tryz.st170 Tryz.ld186 Tryz.st186 Tryz.ld189 Tryz.st189 Tryz.ld194 Tryz.st194 Tryz.ld197 Tryz.st197 Tryz.ld219 Tryz.st219 Tryz.ld224 Tryz.st224 Tryz.ld230 Tryz.st230 Tryz.ld235 Tryz.st235 Tryz.ld243 Tryz.st243 Tryz.ld247 Tryz.st247 Tryz.ld252 Tryz.st252 Tryz.ld258 Tryz.st258 Tryz.al153 Tryz.al255 Tryz.al256 Tryz.al129 Tryz.al152 Tryz.al31 Tryz.al46 Tryz.al52 Tryz.al54 Tryz.al60 Tryz.al70 Tryz.al74 Tryz.al93 Tryz.al141 Tryz.al151 Tryz.al170 Tryz.al186 Tryz.al189 Tryz.al194 Tryz.al197 Tryz.al219 Tryz.al224 Tryz.al230 Tryz.al235 Tryz.al243 Tryz.al247 Tryz.al252 Tryz.al258
attribute [local go_sem] Request.length_enc Request.ok_enc Request.all_get Request.all_set Request.kind_get Request.kind_set Request.blob_get Request.blob_set Request.items_get Request.items_set Request.pred_get Request.pred_set Request.slots_get Request.slots_set Trace.length_enc Trace.ok_enc Trace.all_get Trace.all_set Trace.op_get Trace.op_set Trace.calls_get Trace.calls_set Item.length_enc Item.ok_enc Item.all_get Item.all_set Item.del_get Item.del_set Item.pred_get Item.pred_set Item.args_get Item.args_set Reply.length_enc Reply.ok_enc Reply.all_get Reply.all_set Reply.code_get Reply.code_set Reply.kind_get Reply.kind_set Reply.index_get Reply.index_set Reply.yes_get Reply.yes_set Reply.preds_get Reply.preds_set Reply.rules_get Reply.rules_set Reply.arity_get Reply.arity_set Reply.rows_get Reply.rows_set Reply.fact_get Reply.fact_set Reply.fact_del_get Reply.fact_del_set Reply.fact_pred_get Reply.fact_pred_set Reply.fact_args_get Reply.fact_args_set GEntry.length_enc GEntry.ok_enc GEntry.all_get GEntry.all_set GEntry.seq_get GEntry.seq_set GEntry.kind_get GEntry.kind_set GEntry.code_get GEntry.code_set GOp.length_enc GOp.ok_enc GOp.all_get GOp.all_set GOp.kind_get GOp.kind_set GOp.raw_get GOp.raw_set Reader.length_enc Reader.ok_enc Reader.all_get Reader.all_set Reader.buf_get Reader.buf_set Reader.at__get Reader.at__set Slot.length_enc Slot.ok_enc Slot.all_get Slot.all_set Slot.bound_get Slot.bound_set Slot.name_get Slot.name_set Session.length_enc Session.ok_enc Session.all_get Session.all_set Session.svc_get Session.svc_set Session.buf_get Session.buf_set Session.closed_get Session.closed_set GProgram.length_enc GProgram.ok_enc GProgram.all_get GProgram.all_set GProgram.pool_get GProgram.pool_set GProgram.preds_get GProgram.preds_set GProgram.rules_get GProgram.rules_set GProgram.strata_get GProgram.strata_set PredInfo.length_enc PredInfo.ok_enc PredInfo.all_get PredInfo.all_set PredInfo.arity_get PredInfo.arity_set PredInfo.base_get PredInfo.base_set PredInfo.stratum_get PredInfo.stratum_set Change.length_enc Change.ok_enc Change.all_get Change.all_set Change.del_get Change.del_set Change.pred_get Change.pred_set Change.t_get Change.t_set Store.length_enc Store.ok_enc Store.all_get Store.all_set Store.names_get Store.names_set Store.arity_get Store.arity_set Store.rows_get Store.rows_set Src.length_enc Src.ok_enc Src.all_get Src.all_set Src.b_get Src.b_set Src.at__get Src.at__set Atom.length_enc Atom.ok_enc Atom.all_get Atom.all_set Atom.pred_get Atom.pred_set Atom.args_get Atom.args_set GRule.length_enc GRule.ok_enc GRule.all_get GRule.all_set GRule.head_get GRule.head_set GRule.body_get GRule.body_set GRule.head_pred_get GRule.head_pred_set GRule.head_args_get GRule.head_args_set Cert.length_enc Cert.ok_enc Cert.all_get Cert.all_set Cert.names_get Cert.names_set Cert.nodes_get Cert.nodes_set Fact.length_enc Fact.ok_enc Fact.all_get Fact.all_set Fact.pred_get Fact.pred_set Fact.t_get Fact.t_set Literal.length_enc Literal.ok_enc Literal.all_get Literal.all_set Literal.neg_get Literal.neg_set Literal.atom_get Literal.atom_set Literal.atom_pred_get Literal.atom_pred_set Literal.atom_args_get Literal.atom_args_set Engine.length_enc Engine.ok_enc Engine.all_get Engine.all_set Engine.prog_get Engine.prog_set Engine.st_get Engine.st_set SrcCertm.length_enc SrcCertm.ok_enc SrcCertm.all_get SrcCertm.all_set SrcCertm.b_get SrcCertm.b_set SrcCertm.at__get SrcCertm.at__set GNode.length_enc GNode.ok_enc GNode.all_get GNode.all_set GNode.rule_get GNode.rule_set GNode.pred_get GNode.pred_set GNode.vals_get GNode.vals_set GNode.refs_get GNode.refs_set Term.length_enc Term.ok_enc Term.all_get Term.all_set Term.var_get Term.var_set Term.n_get Term.n_set Env.length_enc Env.ok_enc Env.all_get Env.all_set Env.val_get Env.val_set Env.set_get Env.set_set
attribute [local go_sem] size_put size_ext blk_put free_put blk_alloc free_alloc blk_drew free_drew blk_ext free_ext lookOr_some putOr_some segAt_some cellAt_some storeIn_some put_put put_alloc_new length_arr ok_arr_u8 ok_arr_u32 ok_arr_u64 ok_arr_i64 ok_arr_sl cellsV_agg cellsV_int cellsV_bool cellsV_string cellsV_pointer cellsV_slice cellsV_sl ok_int ok_bool ok_string ok_pointer ok_slice ok_sl toList_arr seg_arr set_arr nth_splice nth_splice0 seg_splice seg_splice0 splice_splice splice_splice0 length_splice_if
attribute [local go_sem ↓] execOp_box
attribute [local go_sem] box_run nth_arr_u8 put_arr_u8 blk_drewN free_drewN put_drewN blk_raw free_raw
theorem isI_ne {g g' : Nat} (h : g ≠ g') {l : Lab} (hl : isI g l) : ¬ isI g' l := by
  rintro ⟨j', e'⟩
  obtain ⟨j, e⟩ := hl
  rcases e with e | e <;> rcases e' with e' | e' <;> (rw [e] at e'; have := (Lab.a.inj e').1; omega)
theorem isI_scr8 (g : Nat) : ¬ isI g (.a 0 8) := by rintro ⟨j, e | e⟩ <;> (have := (Lab.a.inj e).1; omega)
/-- The first fault among the names, or 0. -/
def intCode (N args : List (List UInt8)) : Nat → Int
  | 0 => 0
  | c + 1 => if intCode N args c ≠ 0 then intCode N args c else nmC N args c
theorem intCode_zero {N args : List (List UInt8)} : ∀ {n : Nat}, (∀ c, c < n → nmC N args c = 0) → intCode N args n = 0
  | 0, _ => rfl
  | n + 1, h => by
    unfold intCode
    rw [intCode_zero (fun c hc => h c (by omega)), if_neg (fun e => e rfl)]
    exact h n (by omega)
theorem intCode_ne {N args : List (List UInt8)} {c : Nat} (h1 : ∀ c', c' < c → nmC N args c' = 0) (h2 : nmC N args c ≠ 0) : ∀ {n : Nat}, c < n → intCode N args n = nmC N args c
  | 0, h => absurd h (Nat.not_lt_zero _)
  | n + 1, h => by
    unfold intCode
    by_cases hc : c = n
    · subst hc
      rw [intCode_zero h1, if_neg (fun e => e rfl)]
    · have ih := intCode_ne h1 h2 (n := n) (by omega)
      rw [ih, if_pos h2]
theorem intCode_all {N args : List (List UInt8)} : ∀ {n : Nat}, intCode N args n = 0 → ∀ c, c < n → nmC N args c = 0
  | 0, _, c, hc => absurd hc (Nat.not_lt_zero _)
  | n + 1, h, c, hc => by
    unfold intCode at h
    by_cases h0 : intCode N args n = 0
    · rw [if_neg (fun e => e h0)] at h
      by_cases hn : c = n
      · rw [hn]; exact h
      · exact intCode_all h0 c (by omega)
    · rw [if_pos h0] at h; exact absurd h h0
def IntR (N args : List (List UInt8)) (cd : Int) (T : Tup) (N' : List (List UInt8)) : Prop := cd = intCode N args args.length ∧ (cd = 0 → T = mkT (nmV N args) args.length ∧ N' = nmS N args args.length)
theorem intPost_R {B : Nat} {O : Own} {W : World} {g bi : Nat} {s : InsS} {args : List (List UInt8)} {e : Ending} {V : World} (h : IntPost B O W g bi s args e V) : ∃ O' cd T N', e = .returned (.tuple #[.agg (arr i64v T).toArray, .int .i64 cd]) ∧ Fr (isS g) O W O' V ∧ InsAt B O' V g bi ⟨s.p, N', s.R, s.U, s.live⟩ ∧ IntR s.N args cd T N' := by
  obtain ⟨O', hF, h | h⟩ := h
  · obtain ⟨h1, rfl, h3⟩ := h
    exact ⟨O', 0, _, _, rfl, hF, h3, (intCode_zero h1).symm, fun _ => ⟨rfl, rfl⟩⟩
  · obtain ⟨c, h0, h1, h2, rfl, h3⟩ := h
    exact ⟨O', _, _, _, rfl, hF, h3, (intCode_ne h1 h2 h0).symm, fun e => absurd e h2⟩
theorem lookF_lt {N : List (List UInt8)} {nm : List UInt8} (h : lookF N nm ≠ -1) : 0 ≤ lookF N nm ∧ (lookF N nm).toNat < N.length := by
  obtain ⟨i, h1, h2⟩ := lookF_get h
  have := (List.getElem?_eq_some_iff.1 h2).1
  rw [h1]; omega
theorem internF_val {N : List (List UInt8)} (h : N.length ≤ 256) (nm : List UInt8) (hc : (internF N nm).2.1 = 0) : 0 ≤ (internF N nm).1 ∧ (internF N nm).1.toNat < (internF N nm).2.2.length ∧ (internF N nm).1 < 256 := by
  unfold internF at hc ⊢
  by_cases h1 : lookF N nm ≠ -1
  · rw [if_pos h1]
    have := lookF_lt h1
    exact ⟨this.1, this.2, by dsimp only; omega⟩
  · rw [if_neg h1] at hc ⊢
    by_cases h2 : N.length = 256
    · rw [if_pos h2] at hc; exact absurd (show (16 : Int) = 0 from hc) (by decide)
    · rw [if_neg h2]
      refine ⟨by dsimp only; omega, ?_, by dsimp only; omega⟩
      dsimp only
      rw [List.length_append, List.length_singleton]; omega
theorem nmT_ok {N args : List (List UInt8)} (h : N.length ≤ 256) {n : Nat} (hn : n ≤ 4) (hc : ∀ c, c < n → nmC N args c = 0) : TOk (mkT (nmV N args) n) := by
  intro c hc4
  rw [tg_mkT _ _ _ hc4]
  by_cases h1 : c < n
  · rw [if_pos h1]
    have := internF_val (nmS_len h args c) _ (hc c h1)
    exact ⟨this.1, this.2.2⟩
  · rw [if_neg h1]; omega
def arP (p : PP) (q : Nat) : Nat := (pI p q).arity.toNat
/-- One fact moved to a clean table. -/
def colS (s : InsS) (X : Int × List (List UInt8) × List Change) (x : Nat × Tup) : Int × List (List UInt8) × List Change :=
  if X.1 ≠ 0 then X else
  if intCode X.2.1 (nmsT s.N x.2 (arP s.p x.1)) (arP s.p x.1) ≠ 0 then (intCode X.2.1 (nmsT s.N x.2 (arP s.p x.1)) (arP s.p x.1), X.2.1, X.2.2) else
  (0, nmS X.2.1 (nmsT s.N x.2 (arP s.p x.1)) (arP s.p x.1), X.2.2 ++ [⟨false, (x.1 : Int), mkT (nmV X.2.1 (nmsT s.N x.2 (arP s.p x.1))) (arP s.p x.1)⟩])
def colL (s : InsS) (q : Nat) (l : List Tup) (X : Int × List (List UInt8) × List Change) : Int × List (List UInt8) × List Change := l.foldl (fun X t => colS s X (q, t)) X
theorem colL_stop (s : InsS) (q : Nat) : ∀ (l : List Tup) (X : Int × List (List UInt8) × List Change), X.1 ≠ 0 → colL s q l X = X
  | [], X, _ => rfl
  | x :: l, X, h => by
    show colL s q l (colS s X (q, x)) = X
    have e : colS s X (q, x) = X := by unfold colS; rw [if_pos h]
    rw [e]; exact colL_stop s q l X h
/-- The facts moved, predicate by predicate. -/
def colQ (s : InsS) : Nat → Int × List (List UInt8) × List Change
  | 0 => (0, s.p.pool, [])
  | q + 1 => colL s q (if (pI s.p q).base then rowsAt s.R q else []) (colQ s q)
theorem colQ_stop (s : InsS) {q : Nat} (h : (colQ s q).1 ≠ 0) : ∀ {m : Nat}, q ≤ m → colQ s m = colQ s q
  | 0, hm => by
    have e : q = 0 := by omega
    rw [e]
  | m + 1, hm => by
    by_cases hq : q = m + 1
    · rw [hq]
    · have ih := colQ_stop s h (m := m) (by omega)
      show colL s m _ (colQ s m) = _
      rw [ih, colL_stop s m _ _ h]
def colF (s : InsS) : Int × List (List UInt8) × List Change := colQ s s.p.preds.length
/-- Collecting garbage, plainly. -/
def ColR (s : InsS) (code : Int) (s' : InsS) : Prop := ∃ P, Fst s.p P ∧ ((overB P = true ∧ code = 16) ∨ (overB P = false ∧ ((code = (colF s).1 ∧ code ≠ 0) ∨ ((colF s).1 = 0 ∧ ∃ ix R', BatR s.p P (colF s).2.2 code ix R' ∧ (code = 0 → s' = (colF s).2.2.foldl setS ⟨s.p, (colF s).2.1, R', poolU s.p.pool.length, (s.p.pool.length : Int)⟩)))))
theorem el173 : ElT Change.enc 6 48 251 248 := by
  have info : ∃ i z, Tryz.prog.info? 248 = some i ∧ i.zero = some z ∧ i.size = 6 ∧ i.bytes = 48 ∧ z.cells.size = 6 := by
    have hq : (Tryz.prog.info? 248).map (fun i => (i.zero, i.size, i.bytes)) = some (some (.agg (Change.zero.enc).toArray), 6, 48) := by kernel_rfl
    cases hx : Tryz.prog.info? 248 with
    | none => rw [hx] at hq; simp at hq
    | some i =>
      rw [hx] at hq
      simp only [Option.map_some, Option.some.injEq, Prod.mk.injEq] at hq
      exact ⟨i, _, rfl, hq.1, hq.2.1, hq.2.2, by rfl⟩
  exact ⟨Tryz.underlying251, info, Change.length_enc, Change.one_enc, by omega, by omega⟩
/-- What collect keeps while it goes over the facts. -/
structure Col (B : Nat) (O : Own) (W : World) (g g' bi bn : Nat) (s : InsS) (P : List (List Tup)) (a : Option Addr) (n c : Nat) (N' : List (List UInt8)) (cs : List Change) (O' : Own) (V : World) : Prop where
  fr : Fr (fun _ => False) O W O' V
  old : InsAt B O' V g bi s
  new : InsAt W.heap.size O' V g' bn ⟨s.p, N', P, poolU s.p.pool.length, (s.p.pool.length : Int)⟩
  row : RowL W.heap.size O' (.a 0 8) V 248 6 (.slice a n c) cs.length (cs.flatMap Change.enc)
  nl : N'.length ≤ 256
  ok : ∀ ch ∈ cs, ChOk s.p.preds.length ch ∧ TOk ch.t
theorem Col.next {B : Nat} {O : Own} {W : World} {g g' bi bn : Nat} {s : InsS} {P : List (List Tup)} {a : Option Addr} {n c : Nat} {N' : List (List UInt8)} {cs : List Change} {O' : Own} {V : World} (h : Col B O W g g' bi bn s P a n c N' cs O' V) (hne : g ≠ g') (hfr : ∀ k, k < W.heap.size → ¬ isI g' (O k)) {O2 : Own} {V2 : World} (hF : Fr (isS g') O' V O2 V2) {N2 : List (List UInt8)} (hn : InsAt W.heap.size O2 V2 g' bn ⟨s.p, N2, P, poolU s.p.pool.length, (s.p.pool.length : Int)⟩) (hl : N2.length ≤ 256) : Col B O W g g' bi bn s P a n c N2 cs O2 V2 :=
  ⟨h.fr.fresh hF (fun k hk e => hfr k hk (isI_S e)), h.old.fr hF (fun l hl e => isI_ne hne hl (isI_S e)) (isS_no g'), hn, h.row.fr hF (fun e => isI_scr8 g' (isI_S e)), hl, h.ok⟩
theorem Col.ext {B : Nat} {O : Own} {W : World} {g g' bi bn : Nat} {s : InsS} {P : List (List Tup)} {a : Option Addr} {n c : Nat} {N' : List (List UInt8)} {cs : List Change} {O' : Own} {V V2 : World} (h : Col B O W g g' bi bn s P a n c N' cs O' V) (hx : V.Extends V2) : Col B O W g g' bi bn s P a n c N' cs (lab O' V.heap.size .no) V2 := by
  have hF : Fr (fun _ => False) O' V (lab O' V.heap.size .no) V2 := Fr.grow hx
  exact ⟨h.fr.trans hF, h.old.new hx, h.new.new hx, h.row.fr hF (fun e => e), h.nl, h.ok⟩
theorem seg4_of {CI : List Value} (hl : 4 ≤ CI.length) {W : World} {p : PP} (h : PgR W CI p) : ∃ x : GProgram, seg CI 0 4 = GProgram.enc x ∧ PgR W (GProgram.enc x) p := by
  have h' := h
  obtain ⟨sp, sd, sr, h1, h2, h3, h4, h5⟩ := h
  refine ⟨⟨sp, sd, sr, p.strata⟩, ?_, sp, sd, sr, rfl, rfl, rfl, rfl, h5⟩
  apply List.ext_getElem?
  intro k
  have e : (seg CI 0 4)[k]? = if k < 4 then CI[k]? else none := by
    unfold seg
    rw [List.drop_zero, List.getElem?_take]
  rw [e]
  unfold nth at h1 h2 h3 h4
  by_cases hk : k < 4
  · rw [if_pos hk]
    have hc : k = 0 ∨ k = 1 ∨ k = 2 ∨ k = 3 := by omega
    rcases hc with rfl | rfl | rfl | rfl
    · rw [h1]; rfl
    · rw [h2]; rfl
    · rw [h3]; rfl
    · rw [h4]; rfl
  · rw [if_neg hk, List.getElem?_eq_none (by rw [GProgram.length_enc]; omega)]
end Go.Proofs.Qxb6500787aGreat
