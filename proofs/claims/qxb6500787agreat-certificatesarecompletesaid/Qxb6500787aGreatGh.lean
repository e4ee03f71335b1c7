import Derived.Test.Qxb6500787aGreatGf
import Derived.Test.Qxb6500787aGreatMs

import Derived.StillTailTactics
import Derived.Deep.QuietTactic
import Derived.BigQuiet
import Derived.Deep.RegionHeld
import Derived.Deep.CutRange
import Derived.Laws.ResultCell
import Derived.Laws.Rows
import Derived.DeepKeys
import Derived.DataBytes
import Derived.Laws.StructEq
import Derived.Laws.AppendOwn
import Derived.Laws.MakeOwn
import Derived.Lib.AppendStr
set_option linter.unusedSimpArgs false
set_option linter.unusedVariables false
namespace Go.Proofs.Qxb6500787aGreat
open Go.RowKit Go.Blk
attribute [local go_sem ↓] execOp_load execOp_store execOp_alloc
attribute [local go_sem] Tryz.ld26 Tryz.st26 Tryz.ld27 Tryz.st27 Tryz.ld28 Tryz.st28 Tryz.ld3 Tryz.st3 Tryz.ld29 Tryz.st29 Tryz.ld44 Tryz.st44 Tryz.ld4 Tryz.st4 Tryz.ld50 Tryz.st50 Tryz.ld32 Tryz.st32 Tryz.ld49 Tryz.st49 Tryz.ld68 Tryz.st68 Tryz.ld9 Tryz.st9 Tryz.ld40 Tryz.st40 Tryz.ld138 Tryz.st138 Tryz.ld139 Tryz.st139 Tryz.ld146 Tryz.st146 Tryz.ld183 Tryz.st183 Tryz.ld184 Tryz.st184 Tryz.ld192 Tryz.st192 Tryz.ld195 Tryz.st195 Tryz.ld217 Tryz.st217 Tryz.ld159 Tryz.st159 Tryz.ld142 Tryz.st142 Tryz.ld2 Tryz.st2 Tryz.ld5 Tryz.st5 Tryz.ld12 Tryz.st12 Tryz.ld21 Tryz.st21 Tryz.ld22 Tryz.st22 Tryz.ld24 Tryz.st24 Tryz.ld58 Tryz.st58 Tryz.ld97 Tryz.st97 Tryz.ld101 Tryz.st101 Tryz.ld116 Tryz.st116 Tryz.ld121 Tryz.st121 Tryz.ld135 Tryz.st135 Tryz.ld136 Tryz.st136 Tryz.ld143 Tryz.st143 Tryz.ld148 Tryz.st148 Tryz.ld154 Tryz.st154 Tryz.ld173 Tryz.st173 Tryz.ld187 Tryz.st187 Tryz.ld222 Tryz.st222 Tryz.ld241 Tryz.st241 Tryz.ld248 Tryz.st248 Tryz.ld268 Tryz.st268 Tryz.ld272 Tryz.st272 Tryz.ld153 Tryz.st153 Tryz.ld255 Tryz.st255 Tryz.ld256 Tryz.st256 Tryz.ld129 Tryz.st129 Tryz.ld152 Tryz.st152 Tryz.ld31 Tryz.st31 Tryz.ld46 Tryz.st46 Tryz.ld52 Tryz.st52 Tryz.ld54 Tryz.st54 Tryz.ld60 Tryz.st60 Tryz.ld70 Tryz.st70 Tryz.ld74 Tryz.st74 Tryz.ld93 Tryz.st93 Tryz.ld141 Tryz.st141 Tryz.ld151 Tryz.st151 Tryz.ld170 Tryz.st170 Tryz.ld186 Tryz.st186 Tryz.ld189 Tryz.st189 Tryz.ld194 Tryz.st194 Tryz.ld197 Tryz.st197 Tryz.ld219 Tryz.st219 Tryz.ld224 Tryz.st224 Tryz.ld230 Tryz.st230 Tryz.ld235 Tryz.st235 Tryz.ld243 Tryz.st243 Tryz.ld247 Tryz.st247 Tryz.ld252 Tryz.st252 Tryz.ld258 Tryz.st258 Tryz.al153 Tryz.al255 Tryz.al256 Tryz.al129 Tryz.al152 Tryz.al31 Tryz.al46 Tryz.al52 Tryz.al54 Tryz.al60 Tryz.al70 Tryz.al74 Tryz.al93 Tryz.al141 Tryz.al151 Tryz.al170 Tryz.al186 Tryz.al189 Tryz.al194 Tryz.al197 Tryz.al219 Tryz.al224 Tryz.al230 Tryz.al235 Tryz.al243 Tryz.al247 Tryz.al252 Tryz.al258
attribute [local go_sem] Request.length_enc Request.ok_enc Request.all_get Request.all_set Request.kind_get Request.kind_set Request.blob_get Request.blob_set Request.items_get Request.items_set Request.pred_get Request.pred_set Request.slots_get Request.slots_set Trace.length_enc Trace.ok_enc Trace.all_get Trace.all_set Trace.op_get Trace.op_set Trace.calls_get Trace.calls_set Item.length_enc Item.ok_enc Item.all_get Item.all_set Item.del_get Item.del_set Item.pred_get Item.pred_set Item.args_get Item.args_set Reply.length_enc Reply.ok_enc Reply.all_get Reply.all_set Reply.code_get Reply.code_set Reply.kind_get Reply.kind_set Reply.index_get Reply.index_set Reply.yes_get Reply.yes_set Reply.preds_get Reply.preds_set Reply.rules_get Reply.rules_set Reply.arity_get Reply.arity_set Reply.rows_get Reply.rows_set Reply.fact_get Reply.fact_set Reply.fact_del_get Reply.fact_del_set Reply.fact_pred_get Reply.fact_pred_set Reply.fact_args_get Reply.fact_args_set GEntry.length_enc GEntry.ok_enc GEntry.all_get GEntry.all_set GEntry.seq_get GEntry.seq_set GEntry.kind_get GEntry.kind_set GEntry.code_get GEntry.code_set GOp.length_enc GOp.ok_enc GOp.all_get GOp.all_set GOp.kind_get GOp.kind_set GOp.raw_get GOp.raw_set Reader.length_enc Reader.ok_enc Reader.all_get Reader.all_set Reader.buf_get Reader.buf_set Reader.at__get Reader.at__set Slot.length_enc Slot.ok_enc Slot.all_get Slot.all_set Slot.bound_get Slot.bound_set Slot.name_get Slot.name_set Session.length_enc Session.ok_enc Session.all_get Session.all_set Session.svc_get Session.svc_set Session.buf_get Session.buf_set Session.closed_get Session.closed_set GProgram.length_enc GProgram.ok_enc GProgram.all_get GProgram.all_set GProgram.pool_get GProgram.pool_set GProgram.preds_get GProgram.preds_set GProgram.rules_get GProgram.rules_set GProgram.strata_get GProgram.strata_set PredInfo.length_enc PredInfo.ok_enc PredInfo.all_get PredInfo.all_set PredInfo.arity_get PredInfo.arity_set PredInfo.base_get PredInfo.base_set PredInfo.stratum_get PredInfo.stratum_set Change.length_enc Change.ok_enc Change.all_get Change.all_set Change.del_get Change.del_set Change.pred_get Change.pred_set Change.t_get Change.t_set Store.length_enc Store.ok_enc Store.all_get Store.all_set Store.names_get Store.names_set Store.arity_get Store.arity_set Store.rows_get Store.rows_set Src.length_enc Src.ok_enc Src.all_get Src.all_set Src.b_get Src.b_set Src.at__get Src.at__set Atom.length_enc Atom.ok_enc Atom.all_get Atom.all_set Atom.pred_get Atom.pred_set Atom.args_get Atom.args_set GRule.length_enc GRule.ok_enc GRule.all_get GRule.all_set GRule.head_get GRule.head_set GRule.body_get GRule.body_set GRule.head_pred_get GRule.head_pred_set GRule.head_args_get GRule.head_args_set Cert.length_enc Cert.ok_enc Cert.all_get Cert.all_set Cert.names_get Cert.names_set Cert.nodes_get Cert.nodes_set Fact.length_enc Fact.ok_enc Fact.all_get Fact.all_set Fact.pred_get Fact.pred_set Fact.t_get Fact.t_set Literal.length_enc Literal.ok_enc Literal.all_get Literal.all_set Literal.neg_get Literal.neg_set Literal.atom_get Literal.atom_set Literal.atom_pred_get Literal.atom_pred_set Literal.atom_args_get Literal.atom_args_set Engine.length_enc Engine.ok_enc Engine.all_get Engine.all_set Engine.prog_get Engine.prog_set Engine.st_get Engine.st_set SrcCertm.length_enc SrcCertm.ok_enc SrcCertm.all_get SrcCertm.all_set SrcCertm.b_get SrcCertm.b_set SrcCertm.at__get SrcCertm.at__set GNode.length_enc GNode.ok_enc GNode.all_get GNode.all_set GNode.rule_get GNode.rule_set GNode.pred_get GNode.pred_set GNode.vals_get GNode.vals_set GNode.refs_get GNode.refs_set Term.length_enc Term.ok_enc Term.all_get Term.all_set Term.var_get Term.var_set Term.n_get Term.n_set Env.length_enc Env.ok_enc Env.all_get Env.all_set Env.val_get Env.val_set Env.set_get Env.set_set
attribute [local go_sem] size_put size_ext blk_put free_put blk_alloc free_alloc blk_drew free_drew blk_ext free_ext lookOr_some putOr_some segAt_some cellAt_some storeIn_some put_put put_alloc_new length_arr ok_arr_u8 ok_arr_u32 ok_arr_u64 ok_arr_i64 ok_arr_sl cellsV_agg cellsV_int cellsV_bool cellsV_string cellsV_pointer cellsV_slice cellsV_sl ok_int ok_bool ok_string ok_pointer ok_slice ok_sl toList_arr seg_arr set_arr nth_splice nth_splice0 seg_splice seg_splice0 splice_splice splice_splice0 length_splice_if
attribute [local go_sem ↓] execOp_box
attribute [local go_sem] box_run nth_arr_u8 put_arr_u8 blk_drewN free_drewN put_drewN blk_raw free_raw
theorem zmake174 (w : World) (n : Nat) (hn : n ≤ 100000) : (makeOp 174 (.int .i64 (n : Int)) (.int .i64 (n : Int))).run Tryz.prog w = .ok (.value (.slice (some ⟨w.heap.size, 0, none⟩) n n)) (w.alloc (.cells (bolC (List.replicate n false)).toArray 4)) := by
  obtain ⟨i, hi, hz, hsz, hby⟩ : ∃ i, Tryz.prog.info? 4 = some i ∧ i.zero = some (.bool false) ∧ i.size = 1 ∧ i.bytes = 1 := by
    have hq : (Tryz.prog.info? 4).map (fun i => (i.zero, i.size, i.bytes)) = some (some (.bool false), 1, 1) := by kernel_rfl
    cases hx : Tryz.prog.info? 4 with
    | none => rw [hx] at hq; simp at hq
    | some i =>
      rw [hx] at hq
      simp only [Option.map_some, Option.some.injEq, Prod.mk.injEq] at hq
      exact ⟨i, rfl, hq.1, hq.2.1, hq.2.2⟩
  have hr := run_make (P := Tryz.prog) w 174 4 i _ Tryz.underlying174 hi hz .i64 .i64 (n : Int) (n : Int) (by omega) (by omega) (by rw [hby]; omega) (by omega)
  unfold makeOp
  rw [Sem.run_bind, hr, hsz, Int.toNat_natCast, Nat.mul_one, madeCells_one _ rfl n]
  unfold bolC
  rw [List.map_replicate]
  rfl
/-- Which steps are needed, and the leaves. -/
abbrev NX := List Bool × List NStep
def ndZ (p : PP) (T : List NStep) (u : NStep) (X : NX) (z : PL) : NX :=
  if z.neg = true then X
  else if (pI p z.atom.pred).base = false then (X.1.set (plcF T z.atom.pred (instF p.pool u.vals z.atom)).toNat true, X.2)
  else if plcF X.2 z.atom.pred (instF p.pool u.vals z.atom) < 0 then (X.1, X.2 ++ [⟨z.atom.pred, instF p.pool u.vals z.atom, 0, []⟩])
  else X
def bodyOf (p : PP) (u : NStep) : List PL := (p.rules.getD u.rule ⟨⟨0, []⟩, []⟩).body
def ndI (p : PP) (T : List NStep) (i : Nat) (u : NStep) (X : NX) : NX := if X.1.getD i false = true then (bodyOf p u).foldl (ndZ p T u) X else X
def ndL (p : PP) (T : List NStep) : Nat → NX → NX
  | 0, X => X
  | i + 1, X => ndL p T i (match T[i]? with | some u => ndI p T i u X | none => X)
theorem ndL_succ {p : PP} {T : List NStep} {i : Nat} {u : NStep} (h : T[i]? = some u) (X : NX) : ndL p T (i + 1) X = ndL p T i (ndI p T i u X) := by
  show ndL p T i (match T[i]? with | some u => ndI p T i u X | none => X) = _
  rw [h]
def vaS (X : List (List UInt8) × List Int) (x : List UInt8) : List (List UInt8) × List Int := (addN X.1 x, X.2 ++ [(((addN X.1 x).idxOf x : Nat) : Int)])
def valF (K L : List (List UInt8)) : List (List UInt8) × List Int := L.foldl vaS (K, [])
/-- A leaf becomes a node. -/
def leS (X : CC) (s : NStep) : CC := ((valF X.1 s.row).1, X.2 ++ [⟨-1, (s.pred : Int), (valF X.1 s.row).2, []⟩])
def rfS (p : PP) (u : NStep) (done : List NStep) (v : List Int) (z : PL) : List Int := if z.neg = true then v else v ++ [plcF done z.atom.pred (instF p.pool u.vals z.atom)]
/-- A step becomes a node. -/
def ruS (p : PP) (X : CC × List NStep) (u : NStep) : CC × List NStep := (((valF X.1.1 u.vals).1, X.1.2 ++ [⟨(u.rule : Int), 0, (valF X.1.1 u.vals).2, (bodyOf p u).foldl (rfS p u X.2) []⟩]), X.2 ++ [u])
def ruI (p : PP) (T : List NStep) (need : List Bool) (X : CC × List NStep) (i : Nat) : CC × List NStep := match T[i]? with
  | some u => if need.getD i false = true then ruS p X u else X
  | none => X
def ruN (p : PP) (T : List NStep) (need : List Bool) (n : Nat) (X : CC × List NStep) : CC × List NStep := (List.range n).foldl (ruI p T need) X
theorem ruN_succ (p : PP) (T : List NStep) (need : List Bool) (n : Nat) (X : CC × List NStep) : ruN p T need (n + 1) X = ruI p T need (ruN p T need n X) n := by
  unfold ruN
  rw [List.range_succ, List.foldl_append]
  rfl
def bcX0 (p : PP) (T : List NStep) (q : Nat) (r : NRow) : NX := if (pI p q).base = true then (List.replicate T.length false, [⟨q, r, 0, []⟩]) else ((List.replicate T.length false).set (plcF T q r).toNat true, [])
def bcX (p : PP) (T : List NStep) (q : Nat) (r : NRow) : NX := ndL p T T.length (bcX0 p T q r)
/-- The certificate that is built. -/
def bcC (p : PP) (T : List NStep) (q : Nat) (r : NRow) : CC := (ruN p T (bcX p T q r).1 T.length ((bcX p T q r).2.foldl leS ([], []), (bcX p T q r).2)).1
/-- Needed steps and leaves in memory. -/
structure LvS (W : World) (O : Own) (V : World) (bn : Nat) (la : Option Addr) (ln lc : Nat) (need : List Bool) (KL : List MStep) (Ls : List NStep) : Prop where
  ext : W.Extends V
  lo : ∀ k, k < W.heap.size → O k = .no
  nb : blk V bn = some (bolC need)
  nf : free V bn = true
  no : O bn = .a 9 1
  row : RowL W.heap.size O (.a 9 0) V 161 4 (.slice la ln lc) KL.length (KL.flatMap MStep.enc)
  ll : KL.length = Ls.length
  st : ∀ (i : Nat) (k : MStep) (s : NStep), KL[i]? = some k → Ls[i]? = some s → StC (core O V) k s
  sh : ∀ s ∈ Ls, s.row.length ≤ 4
theorem LvS.fr {W : World} {O : Own} {V : World} {bn : Nat} {la : Option Addr} {ln lc : Nat} {need : List Bool} {KL : List MStep} {Ls : List NStep} (h : LvS W O V bn la ln lc need KL Ls) {L : Lab → Prop} {O' : Own} {V' : World} (hF : Fr L O V O' V') (h0 : ¬ L (.a 9 0)) (h1 : ¬ L (.a 9 1)) (hn : ¬ L .no) : LvS W O' V' bn la ln lc need KL Ls := by
  have hb : ¬ L (O bn) := by rw [h.no]; exact h1
  refine ⟨hF.extends h.ext (fun k hk => by rw [h.lo k hk]; exact hn), fun k hk => (hF.keep k (Nat.lt_of_lt_of_le hk h.ext.size)).trans (h.lo k hk), hF.blk h.nb hb, hF.free h.nb h.nf hb, (hF.keep bn (blk_lt h.nb)).trans h.no, h.row.fr hF h0, h.ll, fun i k s h1 h2 => (h.st i k s h1 h2).sub (Sub.ext (core_fr hF hn)), h.sh⟩
theorem LvS.grow {W : World} {O : Own} {V : World} {bn : Nat} {la : Option Addr} {ln lc : Nat} {need : List Bool} {KL : List MStep} {Ls : List NStep} (h : LvS W O V bn la ln lc need KL Ls) {V' : World} (hx : V.Extends V') : LvS W (lab O V.heap.size .no) V' bn la ln lc need KL Ls := h.fr (L := fun _ => False) (Fr.grow hx) (fun e => e) (fun e => e) (fun e => e)
theorem LvS.drewN {W : World} {O : Own} {V : World} {bn : Nat} {la : Option Addr} {ln lc : Nat} {need : List Bool} {KL : List MStep} {Ls : List NStep} (h : LvS W O V bn la ln lc need KL Ls) (k : Nat) : LvS W O (V.drewN k) bn la ln lc need KL Ls := h.fr (L := fun _ => False) ((Fr.refl _ _ _).drewN k) (fun e => e) (fun e => e) (fun e => e)
theorem LvS.n {W : World} {O : Own} {V : World} {bn : Nat} {la : Option Addr} {ln lc : Nat} {need : List Bool} {KL : List MStep} {Ls : List NStep} (h : LvS W O V bn la ln lc need KL Ls) : Ls.length = ln := by
  have h9 := (h.row.rw MStep.len).1.1
  rw [h.ll] at h9
  exact h9
theorem LvS.steps {W : World} {O : Own} {V : World} {bn : Nat} {la : Option Addr} {ln lc : Nat} {need : List Bool} {KL : List MStep} {Ls : List NStep} (h : LvS W O V bn la ln lc need KL Ls) : StepsAt V la ln Ls := ⟨KL, (h.row.rw MStep.len).1, h.n, fun i k s h1 h2 => (h.st i k s h1 h2).sub (Sub.core _ _)⟩
theorem LvS.base {W : World} {O : Own} {V : World} {bn : Nat} {la : Option Addr} {ln lc : Nat} {need : List Bool} {KL : List MStep} {Ls : List NStep} (h : LvS W O V bn la ln lc need KL Ls) : Sub W (core O V) := fun b C hb => blk_core ((h.ext.blk (blk_lt hb)).trans hb) (h.lo b (blk_lt hb))
theorem LvS.set {W : World} {O : Own} {V : World} {bn : Nat} {la : Option Addr} {ln lc : Nat} {need : List Bool} {KL : List MStep} {Ls : List NStep} (h : LvS W O V bn la ln lc need KL Ls) (need' : List Bool) (hl : need'.length = need.length) : LvS W O (put V bn (bolC need')) bn la ln lc need' KL Ls := by
  have hF : Fr (fun l => l = .a 9 1) O V O (put V bn (bolC need')) := (Fr.refl _ _ _).put (L := fun l => l = .a 9 1) h.no _
  refine ⟨hF.extends h.ext (fun k hk => by rw [h.lo k hk]; exact fun e => by cases e), h.lo, by rw [blk_put, if_pos rfl, h.nb]; rfl, by rw [free_put]; exact h.nf, h.no, h.row.fr hF (fun e => by have := (Lab.a.inj e).2; omega), h.ll, (fun i k s h1 h2 => (h.st i k s h1 h2).sub (Sub.ext (core_fr hF (fun e => by cases e)))), h.sh⟩
theorem LvS.app {W : World} {O : Own} {V : World} {bn : Nat} {la : Option Addr} {ln lc : Nat} {need : List Bool} {KL : List MStep} {Ls : List NStep} (h : LvS W O V bn la ln lc need KL Ls) (x : MStep) (s : NStep) (hx : StC (core O V) x s) (hsl : s.row.length ≤ 4) (hl : Ls.length ≤ 1000000000) (A : Array Value) (hA : A = (MStep.enc x).toArray) : ∃ la' lc' V', (Builtin.append_ #[53, 53] 53 #[.slice la ln lc, .slice (some ⟨V.heap.size, 0, none⟩) 1 1]).run Tryz.prog (V.alloc (.cells A 161)) = .ok (.slice la' (ln + 1) lc') V' ∧ LvS W (lab O V.heap.size (.a 9 0)) V' bn la' (ln + 1) lc' need (KL ++ [x]) (Ls ++ [s]) ∧ Fr (fun y => y = .a 9 0) O V (lab O V.heap.size (.a 9 0)) V' := by
  obtain ⟨la', lc', V', hrun, hR, hF⟩ := appLB el53 53 x h.row h.ext.size (by have := h.ll; omega) (by have := h.ll; omega) A hA 1
  have hb : ¬ (fun y => y = Lab.a 9 0) (O bn) := by rw [h.no]; exact fun e => by have := (Lab.a.inj e).2; omega
  refine ⟨la', lc', V', hrun, ⟨hF.extends h.ext (fun k hk => by rw [h.lo k hk]; exact fun e => by cases e), fun k hk => (hF.keep k (Nat.lt_of_lt_of_le hk h.ext.size)).trans (h.lo k hk), hF.blk h.nb hb, hF.free h.nb h.nf hb, (hF.keep bn (blk_lt h.nb)).trans h.no, hR, by rw [List.length_append, List.length_append, h.ll]; rfl, fun i k u h1 h2 => ?_, fun u hu => (List.mem_append.1 hu).elim (h.sh u) (fun e => by rw [List.mem_singleton.1 e]; exact hsl)⟩, hF⟩
  have hs : Sub (core O V) (core (lab O V.heap.size (.a 9 0)) V') := Sub.ext (core_fr hF (fun e => by cases e))
  by_cases hi : i < KL.length
  · rw [List.getElem?_append_left hi] at h1
    rw [List.getElem?_append_left (by rw [← h.ll]; exact hi)] at h2
    exact (h.st i k u h1 h2).sub hs
  · have hi2 := (List.getElem?_eq_some_iff.1 h1).1
    rw [List.length_append, List.length_singleton] at hi2
    have e : i = KL.length := by omega
    subst e
    rw [List.getElem?_append_right (Nat.le_refl _), Nat.sub_self] at h1
    rw [h.ll, List.getElem?_append_right (Nat.le_refl _), Nat.sub_self] at h2
    obtain rfl := Option.some.inj h1
    obtain rfl := Option.some.inj h2
    exact hx.sub hs
theorem ndZ_len (p : PP) (T : List NStep) (u : NStep) (X : NX) (z : PL) : (ndZ p T u X z).1.length = X.1.length ∧ (ndZ p T u X z).2.length ≤ X.2.length + 1 := by
  unfold ndZ
  split
  · exact ⟨rfl, by omega⟩
  · split
    · exact ⟨List.length_set, by show X.2.length ≤ _; omega⟩
    · split
      · exact ⟨rfl, by show (X.2 ++ _).length ≤ _; rw [List.length_append, List.length_singleton]; omega⟩
      · exact ⟨rfl, by omega⟩
theorem ndZ_need (p : PP) (T : List NStep) (u : NStep) (X : NX) (z : PL) (i : Nat) (h : X.1.getD i false = true) : (ndZ p T u X z).1.getD i false = true := by
  unfold ndZ
  split
  · exact h
  · split
    · show (X.1.set _ true).getD i false = true
      rw [List.getD_eq_getElem?_getD, List.getElem?_set]
      split
      · split
        · rfl
        · rename_i hlt
          rw [List.getD_eq_getElem?_getD] at h
          rename_i e
          subst e
          rw [List.getElem?_eq_none (by omega)] at h
          cases h
      · rw [← List.getD_eq_getElem?_getD]; exact h
    · split
      · exact h
      · exact h
end Go.Proofs.Qxb6500787aGreat
