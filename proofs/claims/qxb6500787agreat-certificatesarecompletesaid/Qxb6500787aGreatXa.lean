
import Derived.Test.Qxb6500787aGreatVs
import Derived.StillTailTactics
import Derived.Deep.QuietTactic
import Derived.BigQuiet
import Derived.Deep.RegionHeld
import Derived.Deep.CutRange
import Derived.Laws.ResultCell
import Derived.Laws.Rows
import Derived.DeepKeys
import Derived.DataBytes
import Derived.Laws.StructEq
import Derived.Laws.AppendOwn
import Derived.Laws.MakeOwn
import Derived.Lib.AppendStr
set_option linter.unusedSimpArgs false
set_option linter.unusedVariables false
namespace Go.Proofs.Qxb6500787aGreat
open Go.RowKit Go.Blk
attribute [local go_sem ↓] execOp_load execOp_store execOp_alloc
attribute [local go_sem] Tryz.ld26 Tryz.st26 Tryz.ld27 Tryz.st27 Tryz.ld28 Tryz.st28 Tryz.ld3 Tryz.st3 Tryz.ld29 Tryz.st29 Tryz.ld44 Tryz.st44 Tryz.ld4 Tryz.st4 Tryz.ld50 Tryz.st50 Tryz.ld32 Tryz.st32 Tryz.ld49 Tryz.st49 Tryz.ld68 Tryz.st68 Tryz.ld9 Tryz.st9 Tryz.ld40 Tryz.st40 Tryz.ld138 Tryz.st138 Tryz.ld139 Tryz.st139 Tryz.ld146 Tryz.st146 Tryz.ld183 Tryz.st183 Tryz.ld184 Tryz.st184 Tryz.ld192 Tryz.st192 Tryz.ld195 Tryz.st195 Tryz.ld217 Tryz.st217 Tryz.ld159 Tryz.st159 Tryz.ld142 Tryz.st142 Tryz.ld2 Tryz.st2 Tryz.ld5 Tryz.st5 Tryz.ld12 Tryz.st12 Tryz.ld21 Tryz.st21 Tryz.ld22 Tryz.st22 Tryz.ld24 Tryz.st24 Tryz.ld58 Tryz.st58 Tryz.ld97 Tryz.st97 Tryz.ld101 Tryz.st101 Tryz.ld116 Tryz.st116 Tryz.ld121 Tryz.st121 Tryz.ld135 Tryz.st135 Tryz.ld136 Tryz.st136 Tryz.ld143 Tryz.st143 Tryz.ld148 Tryz.st148 Tryz.ld154 Tryz.st154 Tryz.ld173 Tryz.st173 Tryz.ld187 Tryz.st187 Tryz.ld222 Tryz.st222 Tryz.ld241 Tryz.st241 Tryz.ld248 Tryz.st248 Tryz.ld268 Tryz.st268 Tryz.ld272 Tryz.st272 Tryz.ld153 Tryz.st153 Tryz.ld255 Tryz.st255 Tryz.ld256 Tryz.st256 Tryz.ld129 Tryz.st129 Tryz.ld152 Tryz.st152 Tryz.ld31 Tryz.st31 Tryz.ld46 Tryz.st46 Tryz.ld52 Tryz.st52 Tryz.ld54 Tryz.st54 Tryz.ld60 Tryz.st60 Tryz.ld70 Tryz.st70 Tryz.ld74 Tryz.st74 Tryz.ld93 Tryz.st93 Tryz.ld141 Tryz.st141 Tryz.ld151 Tryz.st151 Tryz.ld170 Tryz.st170 Tryz.ld186 Tryz.st186 Tryz.ld189 Tryz.st189 Tryz.ld194 Tryz.st194 Tryz.ld197 Tryz.st197 Tryz.ld219 Tryz.st219 Tryz.ld224 Tryz.st224 Tryz.ld230 Tryz.st230 Tryz.ld235 Tryz.st235 Tryz.ld243 Tryz.st243 Tryz.ld247 Tryz.st247 Tryz.ld252 Tryz.st252 Tryz.ld258 Tryz.st258 Tryz.al153 Tryz.al255 Tryz.al256 Tryz.al129 Tryz.al152 Tryz.al31 Tryz.al46 Tryz.al52 Tryz.al54 Tryz.al60 Tryz.al70 Tryz.al74 Tryz.al93 Tryz.al141 Tryz.al151 Tryz.al170 Tryz.al186 Tryz.al189 Tryz.al194 Tryz.al197 Tryz.al219 Tryz.al224 Tryz.al230 Tryz.al235 Tryz.al243 Tryz.al247 Tryz.al252 Tryz.al258
attribute [local go_sem] Request.length_enc Request.ok_enc Request.all_get Request.all_set Request.kind_get Request.kind_set Request.blob_get Request.blob_set Request.items_get Request.items_set Request.pred_get Request.pred_set Request.slots_get Request.slots_set Trace.length_enc Trace.ok_enc Trace.all_get Trace.all_set Trace.op_get Trace.op_set Trace.calls_get Trace.calls_set Item.length_enc Item.ok_enc Item.all_get Item.all_set Item.del_get Item.del_set Item.pred_get Item.pred_set Item.args_get Item.args_set Reply.length_enc Reply.ok_enc Reply.all_get Reply.all_set Reply.code_get Reply.code_set Reply.kind_get Reply.kind_set Reply.index_get Reply.index_set Reply.yes_get Reply.yes_set Reply.preds_get Reply.preds_set Reply.rules_get Reply.rules_set Reply.arity_get Reply.arity_set Reply.rows_get Reply.rows_set Reply.fact_get Reply.fact_set Reply.fact_del_get Reply.fact_del_set Reply.fact_pred_get Reply.fact_pred_set Reply.fact_args_get Reply.fact_args_set GEntry.length_enc GEntry.ok_enc GEntry.all_get GEntry.all_set GEntry.seq_get GEntry.seq_set GEntry.kind_get GEntry.kind_set GEntry.code_get GEntry.code_set GOp.length_enc GOp.ok_enc GOp.all_get GOp.all_set GOp.kind_get GOp.kind_set GOp.raw_get GOp.raw_set Reader.length_enc Reader.ok_enc Reader.all_get Reader.all_set Reader.buf_get Reader.buf_set Reader.at__get Reader.at__set Slot.length_enc Slot.ok_enc Slot.all_get Slot.all_set Slot.bound_get Slot.bound_set Slot.name_get Slot.name_set Session.length_enc Session.ok_enc Session.all_get Session.all_set Session.svc_get Session.svc_set Session.buf_get Session.buf_set Session.closed_get Session.closed_set GProgram.length_enc GProgram.ok_enc GProgram.all_get GProgram.all_set GProgram.pool_get GProgram.pool_set GProgram.preds_get GProgram.preds_set GProgram.rules_get GProgram.rules_set GProgram.strata_get GProgram.strata_set PredInfo.length_enc PredInfo.ok_enc PredInfo.all_get PredInfo.all_set PredInfo.arity_get PredInfo.arity_set PredInfo.base_get PredInfo.base_set PredInfo.stratum_get PredInfo.stratum_set Change.length_enc Change.ok_enc Change.all_get Change.all_set Change.del_get Change.del_set Change.pred_get Change.pred_set Change.t_get Change.t_set Store.length_enc Store.ok_enc Store.all_get Store.all_set Store.names_get Store.names_set Store.arity_get Store.arity_set Store.rows_get Store.rows_set Src.length_enc Src.ok_enc Src.all_get Src.all_set Src.b_get Src.b_set Src.at__get Src.at__set Atom.length_enc Atom.ok_enc Atom.all_get Atom.all_set Atom.pred_get Atom.pred_set Atom.args_get Atom.args_set GRule.length_enc GRule.ok_enc GRule.all_get GRule.all_set GRule.head_get GRule.head_set GRule.body_get GRule.body_set GRule.head_pred_get GRule.head_pred_set GRule.head_args_get GRule.head_args_set Cert.length_enc Cert.ok_enc Cert.all_get Cert.all_set Cert.names_get Cert.names_set Cert.nodes_get Cert.nodes_set Fact.length_enc Fact.ok_enc Fact.all_get Fact.all_set Fact.pred_get Fact.pred_set Fact.t_get Fact.t_set Literal.length_enc Literal.ok_enc Literal.all_get Literal.all_set Literal.neg_get Literal.neg_set Literal.atom_get Literal.atom_set Literal.atom_pred_get Literal.atom_pred_set Literal.atom_args_get Literal.atom_args_set Engine.length_enc Engine.ok_enc Engine.all_get Engine.all_set Engine.prog_get Engine.prog_set Engine.st_get Engine.st_set SrcCertm.length_enc SrcCertm.ok_enc SrcCertm.all_get SrcCertm.all_set SrcCertm.b_get SrcCertm.b_set SrcCertm.at__get SrcCertm.at__set GNode.length_enc GNode.ok_enc GNode.all_get GNode.all_set GNode.rule_get GNode.rule_set GNode.pred_get GNode.pred_set GNode.vals_get GNode.vals_set GNode.refs_get GNode.refs_set Term.length_enc Term.ok_enc Term.all_get Term.all_set Term.var_get Term.var_set Term.n_get Term.n_set Env.length_enc Env.ok_enc Env.all_get Env.all_set Env.val_get Env.val_set Env.set_get Env.set_set
attribute [local go_sem] size_put size_ext blk_put free_put blk_alloc free_alloc blk_drew free_drew blk_ext free_ext lookOr_some putOr_some segAt_some cellAt_some storeIn_some put_put put_alloc_new length_arr ok_arr_u8 ok_arr_u32 ok_arr_u64 ok_arr_i64 ok_arr_sl cellsV_agg cellsV_int cellsV_bool cellsV_string cellsV_pointer cellsV_slice cellsV_sl ok_int ok_bool ok_string ok_pointer ok_slice ok_sl toList_arr seg_arr set_arr nth_splice nth_splice0 seg_splice seg_splice0 splice_splice splice_splice0 length_splice_if
attribute [local go_sem ↓] execOp_box
attribute [local go_sem] box_run nth_arr_u8 put_arr_u8 blk_drewN free_drewN put_drewN blk_raw free_raw
/-! ### Counting -/
/-- How many numbers below n have f. -/
def cntB (f : Nat → Bool) : Nat → Nat
  | 0 => 0
  | n + 1 => cntB f n + if f n then 1 else 0
theorem cntB_le (f : Nat → Bool) : ∀ n, cntB f n ≤ n
  | 0 => Nat.le_refl _
  | n + 1 => by
    have := cntB_le f n
    unfold cntB
    by_cases h : f n = true
    · rw [if_pos h]; omega
    · rw [if_neg h]; omega
theorem cntB_congr {f g : Nat → Bool} : ∀ {n : Nat}, (∀ y, y < n → f y = g y) → cntB f n = cntB g n
  | 0, _ => rfl
  | n + 1, h => by
    unfold cntB
    rw [cntB_congr (fun y hy => h y (by omega)), h n (by omega)]
theorem cntB_one {f g : Nat → Bool} {y : Nat} : ∀ {n : Nat}, y < n → (∀ z, z ≠ y → f z = g z) → cntB g n + (if f y then 1 else 0) = cntB f n + if g y then 1 else 0
  | 0, h, _ => by omega
  | n + 1, h, he => by
    unfold cntB
    by_cases e : y = n
    · subst e
      rw [cntB_congr (f := f) (g := g) (fun z hz => he z (by omega))]
      omega
    · have ih := cntB_one (n := n) (by omega) he
      rw [he n (fun e2 => e e2.symm)]
      omega
/-- Sums over the numbers below n. -/
def sumN (f : Nat → Nat) : Nat → Nat
  | 0 => 0
  | n + 1 => sumN f n + f n
theorem sumN_congr {f g : Nat → Nat} : ∀ {n : Nat}, (∀ y, y < n → f y = g y) → sumN f n = sumN g n
  | 0, _ => rfl
  | n + 1, h => by
    unfold sumN
    rw [sumN_congr (fun y hy => h y (by omega)), h n (by omega)]
theorem sumN_one {f g : Nat → Nat} {y : Nat} : ∀ {n : Nat}, y < n → (∀ z, z ≠ y → f z = g z) → sumN g n + f y = sumN f n + g y
  | 0, h, _ => by omega
  | n + 1, h, he => by
    unfold sumN
    by_cases e : y = n
    · subst e
      rw [sumN_congr (f := f) (g := g) (fun z hz => he z (by omega))]
      omega
    · have ih := sumN_one (n := n) (by omega) he
      rw [he n (fun e2 => e e2.symm)]
      omega
theorem sumN_ge {f : Nat → Nat} {y : Nat} : ∀ {n : Nat}, y < n → f y ≤ sumN f n
  | 0, h => by omega
  | n + 1, h => by
    unfold sumN
    by_cases e : y = n
    · subst e; omega
    · have := sumN_ge (f := f) (y := y) (n := n) (by omega)
      omega
theorem sumN_le {f : Nat → Nat} {m : Nat} : ∀ {n : Nat}, (∀ y, y < n → f y ≤ m) → sumN f n ≤ n * m
  | 0, _ => by simp [sumN]
  | n + 1, h => by
    unfold sumN
    have h1 := sumN_le (f := f) (m := m) (n := n) (fun y hy => h y (by omega))
    have h2 := h n (by omega)
    rw [Nat.succ_mul]; omega
theorem sumN_zero {f : Nat → Nat} : ∀ {n : Nat}, (∀ y, y < n → f y = 0) → sumN f n = 0
  | 0, _ => rfl
  | n + 1, h => by
    unfold sumN
    rw [sumN_zero (fun y hy => h y (by omega)), h n (by omega)]
/-- The columns below n of a tuple that hold y. -/
def colN (t : Tup) (n y : Nat) : Nat := cntB (fun c => decide ((tg t c).toNat = y)) n
theorem colN_succ (t : Tup) (n y : Nat) : colN t (n + 1) y = colN t n y + if (tg t n).toNat = y then 1 else 0 := by
  show cntB _ n + _ = _
  simp only [decide_eq_true_eq]
  rfl
theorem colN_le (t : Tup) (n y : Nat) : colN t n y ≤ n := cntB_le _ _
theorem colN_mono (t : Tup) (y : Nat) : ∀ {n m : Nat}, n ≤ m → colN t n y ≤ colN t m y := by
  intro n m h
  obtain ⟨k, rfl⟩ : ∃ k, m = n + k := ⟨m - n, by omega⟩
  clear h
  induction k with
  | zero => exact Nat.le_refl _
  | succ k ih =>
    have e : n + (k + 1) = (n + k) + 1 := rfl
    rw [e, colN_succ]
    omega
theorem colN_pos {t : Tup} {n y : Nat} : 0 < colN t n y ↔ ∃ c, c < n ∧ (tg t c).toNat = y := by
  induction n with
  | zero => exact ⟨fun h => by simp [colN, cntB] at h, fun ⟨c, h, _⟩ => by omega⟩
  | succ n ih =>
    rw [colN_succ]
    constructor
    · intro h
      by_cases e : (tg t n).toNat = y
      · exact ⟨n, by omega, e⟩
      · rw [if_neg e, Nat.add_zero] at h
        obtain ⟨c, h1, h2⟩ := ih.1 h
        exact ⟨c, by omega, h2⟩
    · rintro ⟨c, h1, h2⟩
      by_cases e : c = n
      · subst e; rw [if_pos h2]; omega
      · have := ih.2 ⟨c, by omega, h2⟩
        omega
def occL (L : List Tup) (ar y : Nat) : Nat := (L.map fun t => colN t ar y).sum
theorem occL_append (L : List Tup) (t : Tup) (ar y : Nat) : occL (L ++ [t]) ar y = occL L ar y + colN t ar y := by
  unfold occL; simp
theorem occL_pos {L : List Tup} {ar y : Nat} : 0 < occL L ar y ↔ ∃ t ∈ L, ∃ c, c < ar ∧ (tg t c).toNat = y := by
  induction L with
  | nil => exact ⟨fun h => by simp [occL] at h, fun ⟨t, h, _⟩ => by cases h⟩
  | cons x L ih =>
    have e : occL (x :: L) ar y = colN x ar y + occL L ar y := by unfold occL; simp
    rw [e]
    constructor
    · intro h
      by_cases h1 : 0 < colN x ar y
      · exact ⟨x, List.mem_cons_self, colN_pos.1 h1⟩
      · obtain ⟨t, h2, h3⟩ := ih.1 (by omega)
        exact ⟨t, List.mem_cons_of_mem _ h2, h3⟩
    · rintro ⟨t, h1, h2⟩
      rcases List.mem_cons.1 h1 with h1 | h1
      · subst h1
        have := colN_pos.2 h2
        omega
      · have := ih.2 ⟨t, h1, h2⟩
        omega
theorem occL_le (L : List Tup) (ar y : Nat) : occL L ar y ≤ L.length * ar := by
  induction L with
  | nil => simp [occL]
  | cons x L ih =>
    have e : occL (x :: L) ar y = colN x ar y + occL L ar y := by unfold occL; simp
    have := colN_le x ar y
    rw [e, List.length_cons, Nat.succ_mul]; omega
theorem delT_none {L : List Tup} {t : Tup} (h : t ∉ L) : delT L t = L := by
  unfold delT
  rw [List.filter_eq_self]
  intro x hx
  simp only [decide_eq_true_eq]
  exact fun e => h (e ▸ hx)
theorem occL_del {L : List Tup} (hn : L.Nodup) {t : Tup} (ht : t ∈ L) (ar y : Nat) : occL (delT L t) ar y + colN t ar y = occL L ar y := by
  induction L with
  | nil => cases ht
  | cons x L ih =>
    have e : occL (x :: L) ar y = colN x ar y + occL L ar y := by unfold occL; simp
    rw [List.nodup_cons] at hn
    by_cases hx : x = t
    · subst hx
      have e2 : delT (x :: L) x = L := by
        have h1 : delT (x :: L) x = delT L x := by unfold delT; rw [List.filter_cons_of_neg (by simp)]
        rw [h1, delT_none hn.1]
      rw [e2, e]; omega
    · have e2 : delT (x :: L) t = x :: delT L t := by unfold delT; rw [List.filter_cons_of_pos (by simpa using hx)]
      have e3 : occL (x :: delT L t) ar y = colN x ar y + occL (delT L t) ar y := by unfold occL; simp
      have h4 := ih hn.2 ((List.mem_cons.1 ht).resolve_left (fun e => hx e.symm))
      rw [e2, e3, e]; omega
/-- The columns of the base facts that hold y. -/
def occF (p : PP) (B : List (List Tup)) (y q : Nat) : Nat := if (pI p q).base then occL (rowsAt B q) (arP p q) y else 0
def occ (p : PP) (B : List (List Tup)) (y : Nat) : Nat := sumN (occF p B y) p.preds.length
/-- The uses of symbol y. -/
def useN (p : PP) (B : List (List Tup)) (y : Nat) : Nat := (if y < p.pool.length then 1 else 0) + occ p B y
def livN (U : Nat → Int) : Nat := cntB (fun y => decide (0 < U y)) 256
theorem occ_pos {p : PP} {B : List (List Tup)} {y : Nat} : 0 < occ p B y ↔ ∃ q, q < p.preds.length ∧ (pI p q).base = true ∧ ∃ t ∈ rowsAt B q, ∃ c, c < arP p q ∧ (tg t c).toNat = y := by
  constructor
  · intro h
    apply Classical.byContradiction
    intro hn
    have : occ p B y = 0 := sumN_zero fun q hq => by
      unfold occF
      by_cases hb : (pI p q).base = true
      · rw [if_pos hb]
        apply Classical.byContradiction
        intro h0
        exact hn ⟨q, hq, hb, occL_pos.1 (by omega)⟩
      · rw [if_neg hb]
    omega
  · rintro ⟨q, hq, hb, h⟩
    have h1 : 0 < occF p B y q := by unfold occF; rw [if_pos hb]; exact occL_pos.2 h
    have h2 := sumN_ge (f := occF p B y) hq
    unfold occ
    omega
theorem rowsAt_set {B : List (List Tup)} {q : Nat} (hq : q < B.length) (L : List Tup) (z : Nat) : rowsAt (B.set q L) z = if z = q then L else rowsAt B z := by
  unfold rowsAt
  rw [List.getD_eq_getElem?_getD, List.getD_eq_getElem?_getD, List.getElem?_set]
  by_cases e : q = z
  · subst e; rw [if_pos rfl, if_pos hq, if_pos rfl]; rfl
  · rw [if_neg e, if_neg (fun e2 => e e2.symm)]
theorem occ_set {p : PP} {B : List (List Tup)} {q : Nat} (hq : q < B.length) (hp : q < p.preds.length) (hb : (pI p q).base = true) (L : List Tup) (y : Nat) : occ p (B.set q L) y + occL (rowsAt B q) (arP p q) y = occ p B y + occL L (arP p q) y := by
  have h := sumN_one (f := occF p B y) (g := occF p (B.set q L) y) hp (fun z hz => by unfold occF; rw [rowsAt_set hq, if_neg hz])
  unfold occ
  have e1 : occF p B y q = occL (rowsAt B q) (arP p q) y := by unfold occF; rw [if_pos hb]
  have e2 : occF p (B.set q L) y q = occL L (arP p q) y := by unfold occF; rw [if_pos hb, rowsAt_set hq, if_pos rfl]
  rw [e1, e2] at h
  exact h
/-- The counts of an instance are right for base facts B. -/
structure Cnt (p : PP) (B : List (List Tup)) (s : InsS) : Prop where
  us : ∀ y, y < 256 → s.U y = (useN p B y : Int)
  lv : s.live = (livN s.U : Int)
theorem livN_ret {U : Nat → Int} {y : Nat} (hy : y < 256) (h0 : 0 ≤ U y) : (livN (retU U y) : Int) = (livN U : Int) + if U y = 0 then 1 else 0 := by
  have h := cntB_one (f := fun z => decide (0 < U z)) (g := fun z => decide (0 < retU U y z)) hy (fun z hz => by show decide _ = decide _; unfold retU; rw [if_neg hz])
  have e : retU U y y = U y + 1 := by unfold retU; rw [if_pos rfl]
  have h2 : (decide (0 < retU U y y)) = true := by rw [e]; simp; omega
  unfold livN
  rw [h2, if_pos rfl] at h
  by_cases e0 : U y = 0
  · rw [if_pos e0]
    rw [if_neg (by rw [e0]; simp)] at h
    omega
  · rw [if_neg e0]
    rw [if_pos (by simp; omega)] at h
    omega
theorem livN_rel {U : Nat → Int} {y : Nat} (hy : y < 256) (h0 : 1 ≤ U y) : (livN (relU U y) : Int) = (livN U : Int) - if U y - 1 = 0 then 1 else 0 := by
  have h := cntB_one (f := fun z => decide (0 < U z)) (g := fun z => decide (0 < relU U y z)) hy (fun z hz => by show decide _ = decide _; unfold relU; rw [if_neg hz])
  have e : relU U y y = U y - 1 := by unfold relU; rw [if_pos rfl]
  have h2 : (decide (0 < U y)) = true := by simp; omega
  unfold livN
  rw [h2, if_pos rfl] at h
  by_cases e0 : U y - 1 = 0
  · rw [if_pos e0]
    rw [if_neg (by rw [e, e0]; simp)] at h
    omega
  · rw [if_neg e0]
    rw [if_pos (by rw [e]; simp; omega)] at h
    omega
/-- The uses while the columns of a change are settled. -/
theorem useS_ins {s : InsS} {ch : Change} (hd : ch.del = false) (ht : TOk ch.t) (h0 : ∀ y, y < 256 → 0 ≤ s.U y) (hl : s.live = (livN s.U : Int)) : ∀ c, c ≤ 4 → (∀ y, (useS s ch c).U y = s.U y + (colN ch.t c y : Int)) ∧ (useS s ch c).live = (livN (useS s ch c).U : Int)
  | 0, _ => ⟨fun y => by show s.U y = s.U y + ((0 : Nat) : Int); omega, hl⟩
  | c + 1, hc => by
    obtain ⟨h1, h2⟩ := useS_ins hd ht h0 hl c (by omega)
    have e : useS s ch (c + 1) = retS (useS s ch c) (tg ch.t c).toNat := by show (if ch.del then _ else _) = _; rw [hd]; rfl
    have hy : (tg ch.t c).toNat < 256 := by have := ht c (by omega); omega
    rw [e]
    have hpos : 0 ≤ (useS s ch c).U (tg ch.t c).toNat := by rw [h1]; have := h0 _ hy; omega
    refine ⟨fun y => ?_, ?_⟩
    · show retU (useS s ch c).U (tg ch.t c).toNat y = _
      unfold retU
      rw [colN_succ]
      by_cases e2 : y = (tg ch.t c).toNat
      · rw [if_pos e2, ← e2, h1, if_pos rfl]; omega
      · rw [if_neg e2, h1, if_neg (fun e3 => e2 e3.symm)]; omega
    · show (if (useS s ch c).U (tg ch.t c).toNat = 0 then (useS s ch c).live + 1 else (useS s ch c).live) = (livN (retU (useS s ch c).U (tg ch.t c).toNat) : Int)
      rw [livN_ret hy hpos, ← h2]
      by_cases e2 : (useS s ch c).U (tg ch.t c).toNat = 0
      · rw [if_pos e2, if_pos e2]
      · rw [if_neg e2, if_neg e2]; omega
theorem useS_del {s : InsS} {ch : Change} (hd : ch.del = true) (ht : TOk ch.t) {ar : Nat} (har : ar ≤ 4) (h0 : ∀ y, y < 256 → (colN ch.t ar y : Int) ≤ s.U y) (hl : s.live = (livN s.U : Int)) : ∀ c, c ≤ ar → (∀ y, (useS s ch c).U y = s.U y - (colN ch.t c y : Int)) ∧ (useS s ch c).live = (livN (useS s ch c).U : Int)
  | 0, _ => ⟨fun y => by show s.U y = s.U y - ((0 : Nat) : Int); omega, hl⟩
  | c + 1, hc => by
    obtain ⟨h1, h2⟩ := useS_del hd ht har h0 hl c (by omega)
    have e : useS s ch (c + 1) = relS (useS s ch c) (tg ch.t c).toNat := by show (if ch.del then _ else _) = _; rw [hd]; rfl
    have hy : (tg ch.t c).toNat < 256 := by have := ht c (by omega); omega
    rw [e]
    have hpos : 1 ≤ (useS s ch c).U (tg ch.t c).toNat := by
      rw [h1]
      have h3 := h0 _ hy
      have h4 := colN_mono ch.t (tg ch.t c).toNat (n := c + 1) (m := ar) hc
      rw [colN_succ, if_pos rfl] at h4
      omega
    refine ⟨fun y => ?_, ?_⟩
    · show relU (useS s ch c).U (tg ch.t c).toNat y = _
      unfold relU
      rw [colN_succ]
      by_cases e2 : y = (tg ch.t c).toNat
      · rw [if_pos e2, ← e2, h1, if_pos rfl]; omega
      · rw [if_neg e2, h1, if_neg (fun e3 => e2 e3.symm)]; omega
    · show (if (useS s ch c).U (tg ch.t c).toNat - 1 = 0 then (useS s ch c).live - 1 else (useS s ch c).live) = (livN (relU (useS s ch c).U (tg ch.t c).toNat) : Int)
      rw [livN_rel hy hpos, ← h2]
      by_cases e2 : (useS s ch c).U (tg ch.t c).toNat - 1 = 0
      · rw [if_pos e2, if_pos e2]
      · rw [if_neg e2, if_neg e2]; omega
end Go.Proofs.Qxb6500787aGreat
