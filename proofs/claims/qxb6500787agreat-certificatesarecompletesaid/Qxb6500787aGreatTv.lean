
import Derived.Test.Qxb6500787aGreatTu
import Derived.StillTailTactics
import Derived.Deep.QuietTactic
import Derived.BigQuiet
import Derived.Deep.RegionHeld
import Derived.Deep.CutRange
import Derived.Laws.ResultCell
import Derived.Laws.Rows
import Derived.DeepKeys
import Derived.DataBytes
import Derived.Laws.StructEq
import Derived.Laws.AppendOwn
import Derived.Laws.MakeOwn
import Derived.Lib.AppendStr
set_option linter.unusedSimpArgs false
set_option linter.unusedVariables false
namespace Go.Proofs.Qxb6500787aGreat
open Go.RowKit Go.Blk
attribute [local go_sem ↓] execOp_load execOp_store execOp_alloc
attribute [local go_sem] Tryz.ld26 Tryz.st26 Tryz.ld27 Tryz.st27 Tryz.ld28 Tryz.st28 Tryz.ld3 Tryz.st3 Tryz.ld29 Tryz.st29 Tryz.ld44 Tryz.st44 Tryz.ld4 Tryz.st4 Tryz.ld50 Tryz.st50 Tryz.ld32 Tryz.st32 Tryz.ld49 Tryz.st49 Tryz.ld68 Tryz.st68 Tryz.ld9 Tryz.st9 Tryz.ld40 Tryz.st40 Tryz.ld138 Tryz.st138 Tryz.ld139 Tryz.st139 Tryz.ld146 Tryz.st146 Tryz.ld183 Tryz.st183 Tryz.ld184 Tryz.st184 Tryz.ld192 Tryz.st192 Tryz.ld195 Tryz.st195 Tryz.ld217 Tryz.st217 Tryz.ld159 Tryz.st159 Tryz.ld142 Tryz.st142 Tryz.ld2 Tryz.st2 Tryz.ld5 Tryz.st5 Tryz.ld12 Tryz.st12 Tryz.ld21 Tryz.st21 Tryz.ld22 Tryz.st22 Tryz.ld24 Tryz.st24 Tryz.ld58 Tryz.st58 Tryz.ld97 Tryz.st97 Tryz.ld101 Tryz.st101 Tryz.ld116 Tryz.st116 Tryz.ld121 Tryz.st121 Tryz.ld135 Tryz.st135 Tryz.ld136 Tryz.st136 Tryz.ld143 Tryz.st143 Tryz.ld148 Tryz.st148 Tryz.ld154 Tryz.st154 Tryz.ld173 Tryz.st173 Tryz.ld187 Tryz.st187 Tryz.ld222 Tryz.st222 Tryz.ld241 Tryz.st241 Tryz.ld248 Tryz.st248 Tryz.ld268 Tryz.st268 Tryz.ld272 Tryz.st272 Tryz.ld153 Tryz.st153 Tryz.ld255 Tryz.st255 Tryz.ld256 Tryz.st256 Tryz.ld129 Tryz.st129 Tryz.ld152 Tryz.st152 Tryz.ld31 Tryz.st31 Tryz.ld46 Tryz.st46 Tryz.ld52 Tryz.st52 Tryz.ld54 Tryz.st54 Tryz.ld60 Tryz.st60 Tryz.ld70 Tryz.st70 Tryz.ld74 Tryz.st74 Tryz.ld93 Tryz.st93 Tryz.ld141 Tryz.st141 Tryz.ld151 Tryz.st151 Tryz.ld170 Tryz.st170 Tryz.ld186 Tryz.st186 Tryz.ld189 Tryz.st189 Tryz.ld194 Tryz.st194 Tryz.ld197 Tryz.st197 Tryz.ld219 Tryz.st219 Tryz.ld224 Tryz.st224 Tryz.ld230 Tryz.st230 Tryz.ld235 Tryz.st235 Tryz.ld243 Tryz.st243 Tryz.ld247 Tryz.st247 Tryz.ld252 Tryz.st252 Tryz.ld258 Tryz.st258 Tryz.al153 Tryz.al255 Tryz.al256 Tryz.al129 Tryz.al152 Tryz.al31 Tryz.al46 Tryz.al52 Tryz.al54 Tryz.al60 Tryz.al70 Tryz.al74 Tryz.al93 Tryz.al141 Tryz.al151 Tryz.al170 Tryz.al186 Tryz.al189 Tryz.al194 Tryz.al197 Tryz.al219 Tryz.al224 Tryz.al230 Tryz.al235 Tryz.al243 Tryz.al247 Tryz.al252 Tryz.al258
attribute [local go_sem] Request.length_enc Request.ok_enc Request.all_get Request.all_set Request.kind_get Request.kind_set Request.blob_get Request.blob_set Request.items_get Request.items_set Request.pred_get Request.pred_set Request.slots_get Request.slots_set Trace.length_enc Trace.ok_enc Trace.all_get Trace.all_set Trace.op_get Trace.op_set Trace.calls_get Trace.calls_set Item.length_enc Item.ok_enc Item.all_get Item.all_set Item.del_get Item.del_set Item.pred_get Item.pred_set Item.args_get Item.args_set Reply.length_enc Reply.ok_enc Reply.all_get Reply.all_set Reply.code_get Reply.code_set Reply.kind_get Reply.kind_set Reply.index_get Reply.index_set Reply.yes_get Reply.yes_set Reply.preds_get Reply.preds_set Reply.rules_get Reply.rules_set Reply.arity_get Reply.arity_set Reply.rows_get Reply.rows_set Reply.fact_get Reply.fact_set Reply.fact_del_get Reply.fact_del_set Reply.fact_pred_get Reply.fact_pred_set Reply.fact_args_get Reply.fact_args_set GEntry.length_enc GEntry.ok_enc GEntry.all_get GEntry.all_set GEntry.seq_get GEntry.seq_set GEntry.kind_get GEntry.kind_set GEntry.code_get GEntry.code_set GOp.length_enc GOp.ok_enc GOp.all_get GOp.all_set GOp.kind_get GOp.kind_set GOp.raw_get GOp.raw_set Reader.length_enc Reader.ok_enc Reader.all_get Reader.all_set Reader.buf_get Reader.buf_set Reader.at__get Reader.at__set Slot.length_enc Slot.ok_enc Slot.all_get Slot.all_set Slot.bound_get Slot.bound_set Slot.name_get Slot.name_set Session.length_enc Session.ok_enc Session.all_get Session.all_set Session.svc_get Session.svc_set Session.buf_get Session.buf_set Session.closed_get Session.closed_set GProgram.length_enc GProgram.ok_enc GProgram.all_get GProgram.all_set GProgram.pool_get GProgram.pool_set GProgram.preds_get GProgram.preds_set GProgram.rules_get GProgram.rules_set GProgram.strata_get GProgram.strata_set PredInfo.length_enc PredInfo.ok_enc PredInfo.all_get PredInfo.all_set PredInfo.arity_get PredInfo.arity_set PredInfo.base_get PredInfo.base_set PredInfo.stratum_get PredInfo.stratum_set Change.length_enc Change.ok_enc Change.all_get Change.all_set Change.del_get Change.del_set Change.pred_get Change.pred_set Change.t_get Change.t_set Store.length_enc Store.ok_enc Store.all_get Store.all_set Store.names_get Store.names_set Store.arity_get Store.arity_set Store.rows_get Store.rows_set Src.length_enc Src.ok_enc Src.all_get Src.all_set Src.b_get Src.b_set Src.at__get Src.at__set Atom.length_enc Atom.ok_enc Atom.all_get Atom.all_set Atom.pred_get Atom.pred_set Atom.args_get Atom.args_set GRule.length_enc GRule.ok_enc GRule.all_get GRule.all_set GRule.head_get GRule.head_set GRule.body_get GRule.body_set GRule.head_pred_get GRule.head_pred_set GRule.head_args_get GRule.head_args_set Cert.length_enc Cert.ok_enc Cert.all_get Cert.all_set Cert.names_get Cert.names_set Cert.nodes_get Cert.nodes_set Fact.length_enc Fact.ok_enc Fact.all_get Fact.all_set Fact.pred_get Fact.pred_set Fact.t_get Fact.t_set Literal.length_enc Literal.ok_enc Literal.all_get Literal.all_set Literal.neg_get Literal.neg_set Literal.atom_get Literal.atom_set Literal.atom_pred_get Literal.atom_pred_set Literal.atom_args_get Literal.atom_args_set Engine.length_enc Engine.ok_enc Engine.all_get Engine.all_set Engine.prog_get Engine.prog_set Engine.st_get Engine.st_set SrcCertm.length_enc SrcCertm.ok_enc SrcCertm.all_get SrcCertm.all_set SrcCertm.b_get SrcCertm.b_set SrcCertm.at__get SrcCertm.at__set GNode.length_enc GNode.ok_enc GNode.all_get GNode.all_set GNode.rule_get GNode.rule_set GNode.pred_get GNode.pred_set GNode.vals_get GNode.vals_set GNode.refs_get GNode.refs_set Term.length_enc Term.ok_enc Term.all_get Term.all_set Term.var_get Term.var_set Term.n_get Term.n_set Env.length_enc Env.ok_enc Env.all_get Env.all_set Env.val_get Env.val_set Env.set_get Env.set_set
attribute [local go_sem] size_put size_ext blk_put free_put blk_alloc free_alloc blk_drew free_drew blk_ext free_ext lookOr_some putOr_some segAt_some cellAt_some storeIn_some put_put put_alloc_new length_arr ok_arr_u8 ok_arr_u32 ok_arr_u64 ok_arr_i64 ok_arr_sl cellsV_agg cellsV_int cellsV_bool cellsV_string cellsV_pointer cellsV_slice cellsV_sl ok_int ok_bool ok_string ok_pointer ok_slice ok_sl toList_arr seg_arr set_arr nth_splice nth_splice0 seg_splice seg_splice0 splice_splice splice_splice0 length_splice_if
attribute [local go_sem ↓] execOp_box
attribute [local go_sem] box_run nth_arr_u8 put_arr_u8 blk_drewN free_drewN put_drewN blk_raw free_raw
/-- An instance as the service keeps it. -/
structure InOk (s : InsS) : Prop where
  pok : PPok s.p
  nd : s.p.pool.Nodup
  nl : s.N.length ≤ 256
  inv : RInv s.p s.R
  cap : overB s.R = false
  val : ∀ q, ∀ t ∈ rowsAt s.R q, ∀ c, c < arP s.p q → (tg t c).toNat < s.N.length
theorem pI_ar {p : PP} (h : PPok p) {q : Nat} (hq : q < p.preds.length) : (pI p q).arity = (arP p q : Int) ∧ arP p q ≤ 4 := by
  have := h.ar _ (List.mem_of_getElem? (pI_at hq))
  unfold arP; omega
theorem lb1 (O : Own) (n : Nat) (l : Lab) : lab O n l n = l := lab_ge (Nat.le_refl _)
theorem colL_append (s : InsS) (q : Nat) (l : List Tup) (t : Tup) (X : Int × List (List UInt8) × List Change) : colL s q (l ++ [t]) X = colS s (colL s q l X) (q, t) := by
  unfold colL
  rw [List.foldl_append]; rfl
theorem col_stop2 (s : InsS) {q i : Nat} (hq : q < s.p.preds.length) {rows : List Tup} (hb : (pI s.p q).base = true) (hr : rowsAt s.R q = rows) {X : Int × List (List UInt8) × List Change} (h : colL s q (rows.take i) (colQ s q) = X) (hX : X.1 ≠ 0) : (colF s).1 = X.1 := by
  have e1 : colQ s (q + 1) = X := by
    show colL s q (if (pI s.p q).base then rowsAt s.R q else []) (colQ s q) = X
    rw [if_pos hb, hr]
    have e2 : rows = rows.take i ++ rows.drop i := (List.take_append_drop i rows).symm
    rw [e2]
    unfold colL at h ⊢
    rw [List.foldl_append, h]
    exact colL_stop s q _ X hX
  unfold colF
  rw [colQ_stop s (q := q + 1) (by rw [e1]; exact hX) (by omega), e1]
theorem Col.scr {B : Nat} {O : Own} {W : World} {g g' bi bn : Nat} {s : InsS} {P : List (List Tup)} {a : Option Addr} {n c : Nat} {N' : List (List UInt8)} {cs : List Change} {O' : Own} {V : World} (h : Col B O W g g' bi bn s P a n c N' cs O' V) {b : Nat} (hb : O' b = .a 0 9) (hw : W.heap.size ≤ b) (C : List Value) : Col B O W g g' bi bn s P a n c N' cs O' (put V b C) :=
  ⟨h.fr.put_new hw C, h.old.scr hb C, h.new.scr hb C, h.row.fr ((Fr.refl (fun l => l = .a 0 9) O' V).put (L := fun l => l = .a 0 9) hb C) (fun e => by have := (Lab.a.inj e).2; omega), h.nl, h.ok⟩
theorem Col.alloc {B : Nat} {O : Own} {W : World} {g g' bi bn : Nat} {s : InsS} {P : List (List Tup)} {a : Option Addr} {n c : Nat} {N' : List (List UInt8)} {cs : List Change} {O' : Own} {V : World} (h : Col B O W g g' bi bn s P a n c N' cs O' V) (x : Obj) : Col B O W g g' bi bn s P a n c N' cs (lab O' V.heap.size (.a 0 9)) (V.alloc x) := by
  have hx : V.Extends (V.alloc x) := extends_alloc (ext_Ext (Ext.refl _)) _
  have hF : Fr (fun _ => False) O' V (lab O' V.heap.size (.a 0 9)) (V.alloc x) := ⟨hx.os, hx.tape, hx.output, hx.size, fun k hk => lab_lt hk, fun k hk _ => hx.block k hk⟩
  exact ⟨h.fr.trans hF, h.old.fr hF (fun _ _ h => h) (fun h => h), h.new.fr hF (fun _ _ h => h) (fun h => h), h.row.fr hF (fun e => e), h.nl, h.ok⟩
theorem Col.draw {B : Nat} {O : Own} {W : World} {g g' bi bn : Nat} {s : InsS} {P : List (List Tup)} {a : Option Addr} {n c : Nat} {N' : List (List UInt8)} {cs : List Change} {O' : Own} {V : World} (h : Col B O W g g' bi bn s P a n c N' cs O' V) : Col B O W g g' bi bn s P a n c N' cs O' V.drew := ⟨h.fr.drew, h.old.ext (extd V), h.new.ext (extd V), h.row.fr (Fr.of_extends (L := fun _ => False) (extd V)) (fun h => h), h.nl, h.ok⟩
theorem intPost_L {B : Nat} {O : Own} {W : World} {g bi : Nat} {s : InsS} (hN : s.N.length ≤ 256) {args : List (List UInt8)} {e : Ending} {V : World} (h : IntPost B O W g bi s args e V) : ∃ O' cd T N', e = .returned (.tuple #[.agg (arr i64v T).toArray, .int .i64 cd]) ∧ Fr (isS g) O W O' V ∧ InsAt B O' V g bi ⟨s.p, N', s.R, s.U, s.live⟩ ∧ IntR s.N args cd T N' ∧ N'.length ≤ 256 := by
  obtain ⟨O', hF, h | h⟩ := h
  · obtain ⟨h1, rfl, h3⟩ := h
    exact ⟨O', 0, _, _, rfl, hF, h3, ⟨(intCode_zero h1).symm, fun _ => ⟨rfl, rfl⟩⟩, nmS_len hN _ _⟩
  · obtain ⟨c, h0, h1, h2, rfl, h3⟩ := h
    exact ⟨O', _, _, _, rfl, hF, h3, ⟨(intCode_ne h1 h2 h0).symm, fun e => absurd e h2⟩, nmS_len hN _ _⟩
def CollPost (O : Own) (W : World) (g' : Nat) (s : InsS) (e : Ending) (V : World) : Prop := ∃ code s', ColR s code s' ∧ ((code ≠ 0 ∧ e = .returned (.tuple #[.pointer none, .int .i64 code]) ∧ W.Extends V) ∨ (code = 0 ∧ ∃ bn O', e = .returned (.tuple #[.pointer (some ⟨bn, 0, none⟩), .int .i64 0]) ∧ Fr (fun _ => False) O W O' V ∧ InsAt W.heap.size O' V g' bn s'))
def co1I (B : Nat) (O : Own) (W : World) (g g' bi bn : Nat) (s : InsS) (P : List (List Tup)) (np : Nat) (f : Nat → Value) (V : World) : Prop := f 0 = .pointer (some ⟨bi, 0, none⟩) ∧ f 4 = .pointer (some ⟨bn, 0, none⟩) ∧ ∃ (q : Nat) (a : Option Addr) (n c : Nat), q ≤ np ∧ n ≤ 40000 ∧ f 6 = .slice a n c ∧ f 7 = .int .i64 (q : Nat) ∧ Hid (∃ O' N' cs, Col B O W g g' bi bn s P a n c N' cs O' V ∧ colQ s q = (0, N', cs) ∧ n ≤ 512 * q)
def co2I (B : Nat) (O : Own) (W : World) (g g' bi bn : Nat) (s : InsS) (P : List (List Tup)) (q : Nat) (ra : Option Addr) (ln rc : Nat) (rows : List Tup) (f : Nat → Value) (V : World) : Prop := f 0 = .pointer (some ⟨bi, 0, none⟩) ∧ f 4 = .pointer (some ⟨bn, 0, none⟩) ∧ f 7 = .int .i64 (q : Nat) ∧ f 8 = .slice ra ln rc ∧ ∃ (i : Nat) (a : Option Addr) (n c : Nat), i ≤ ln ∧ n ≤ 40000 ∧ f 6 = .slice a n c ∧ f 9 = .int .i64 (i : Nat) ∧ Hid (∃ O' N' cs, Col B O W g g' bi bn s P a n c N' cs O' V ∧ colL s q (rows.take i) (colQ s q) = (0, N', cs) ∧ n ≤ 512 * q + i ∧ Rw tpl 4 (core O' V) ra ln rows)
def co3I (O : Own) (W : World) (g' bn : Nat) (s0 : InsS) (a : Option Addr) (n c : Nat) (cs : List Change) (f : Nat → Value) (V : World) : Prop := f 4 = .pointer (some ⟨bn, 0, none⟩) ∧ f 6 = .slice a n c ∧ ∃ j : Nat, j ≤ n ∧ f 12 = .int .i64 (j : Nat) ∧ Hid (∃ O', Fr (fun _ => False) O W O' V ∧ InsAt W.heap.size O' V g' bn ((cs.take j).foldl setS s0) ∧ RowL W.heap.size O' (.a 0 8) V 248 6 (.slice a n c) cs.length (cs.flatMap Change.enc) ∧ UB (1000 + 4 * (j : Int)) ((cs.take j).foldl setS s0))
theorem setS_p (s : InsS) (ch : Change) : (setS s ch).p = s.p ∧ (setS s ch).N = s.N ∧ (setS s ch).R = s.R := useS_p s ch _
theorem setsS_p (cs : List Change) : ∀ s : InsS, (cs.foldl setS s).p = s.p ∧ (cs.foldl setS s).N = s.N ∧ (cs.foldl setS s).R = s.R := by
  induction cs with
  | nil => intro s; exact ⟨rfl, rfl, rfl⟩
  | cons x cs ih =>
    intro s
    have h1 := ih (setS s x)
    have h2 := setS_p s x
    exact ⟨h1.1.trans h2.1, h1.2.1.trans h2.2.1, h1.2.2.trans h2.2.2⟩
theorem UB.set {M : Int} {s : InsS} (h : UB M s) {ch : Change} (ht : TOk ch.t) (ha : arP s.p ch.pred.toNat ≤ 4) : UB (M + 4) (setS s ch) := by
  have h1 := h.use ht _ ha
  have e : useS s ch (arP s.p ch.pred.toNat) = setS s ch := rfl
  rw [e] at h1
  exact ⟨fun z hz => by have := h1.1 z hz; omega, by have := h1.2; omega, by have := h1.2; omega⟩
theorem Change_seg {W : World} {a : Option Addr} {n : Nat} {cs : List Change} (h : Rw Change.enc 6 W a n cs) {i : Nat} {x : Change} (hx : cs[i]? = some x) : ∃ b C, a = some ⟨b, 0, none⟩ ∧ blk W b = some C ∧ i * 6 + 6 ≤ C.length ∧ i < n ∧ seg C (i * 6) 6 = x.enc := by
  obtain ⟨b, C, k1, k2, k3, k4⟩ := h.2 i x hx
  have hi : i < cs.length := (List.getElem?_eq_some_iff.1 hx).1
  have hl := h.1
  exact ⟨b, C, k1, k2, by have h5 : (i + 1) * 6 ≤ n * 6 := Nat.mul_le_mul_right _ (by omega)
                          omega, by omega, k4⟩
attribute [local go_sem ↓] execOp_build execOp_bslice
attribute [local go_sem] build170a bslice173
set_option maxRecDepth 100000 in
theorem frame110c (f : Nat → Value) : frameN 110 f = #[f 0, f 1, f 2, f 3, f 4, f 5, f 6, f 7, f 8, f 9, f 10, f 11, f 12, f 13, f 14, f 15, f 16, f 17, f 18, f 19, f 20, f 21, f 22, f 23, f 24, f 25, f 26, f 27, f 28, f 29, f 30, f 31, f 32, f 33, f 34, f 35, f 36, f 37, f 38, f 39, f 40, f 41, f 42, f 43, f 44, f 45, f 46, f 47, f 48, f 49, f 50, f 51, f 52, f 53, f 54, f 55, f 56, f 57, f 58, f 59, f 60, f 61, f 62, f 63, f 64, f 65, f 66, f 67, f 68, f 69, f 70, f 71, f 72, f 73, f 74, f 75, f 76, f 77, f 78, f 79, f 80, f 81, f 82, f 83, f 84, f 85, f 86, f 87, f 88, f 89, f 90, f 91, f 92, f 93, f 94, f 95, f 96, f 97, f 98, f 99, f 100, f 101, f 102, f 103, f 104, f 105, f 106, f 107, f 108, f 109] := by kernel_rfl
set_option maxRecDepth 40000 in
set_option maxHeartbeats 8000000 in
theorem collect_any {B : Nat} {O : Own} {W : World} {g g' bi : Nat} {s : InsS} (h : InsAt B O W g bi s) (hok : InOk s) (hne : g ≠ g') (hfr : ∀ k, k < W.heap.size → ¬ isI g' (O k)) (hf8 : ∀ k, k < W.heap.size → O k ≠ .a 0 8) : Calls Tryz.prog 158 #[.pointer (some ⟨bi, 0, none⟩)] W (CollPost O W g' s) := by
  obtain ⟨Q, hQ⟩ : ∃ Q, Q = CollPost O W g' s := ⟨_, rfl⟩
  rw [← hQ]
  have HQ := hid_of hQ
  have HI0 := hid_of h
  have HOK := hid_of hok
  have HNE := hid_of hne
  have HFR := hid_of hfr
  have HF8 := hid_of hf8
  clear hf8
  obtain ⟨CI, bst, be, A, hm⟩ := h
  have HM := hid_of hm
  have hbi := hm.cell
  have hCl := hm.ic.len
  obtain ⟨x, hx4, hxp⟩ := seg4_of (by omega) hm.ic.pg
  have hni := newInst_any (W := W) (O := O) g' x s.p hxp hok.pok hok.nd hfr
  have HXP := hid_of hxp
  have c4 := hm.ic.c4
  have l0 : 0 + 4 ≤ CI.length := by omega
  have l1 : 1 < CI.length := by omega
  have l4 : 4 < CI.length := by omega
  have l5 : 5 < CI.length := by omega
  have h64 := hok.pok.nD
  obtain ⟨np, hnp⟩ : ∃ np, np = s.p.preds.length := ⟨_, rfl⟩
  rw [← hnp] at h64
  have HNP := hid_of hnp
  clear hQ hok hne hfr hm hCl hxp hnp
  go_enter Tryz.func158, Tryz.ntmps158
  go_wp2_with fail
  refine hni.mono ?_
  rintro en V1 ⟨P, hP, hx1, hres⟩
  try dsimp only
  have HP := hid_of hP
  clear hni hP
  rcases hres with ⟨hov, rfl⟩ | ⟨hov, bn, O1, rfl, hF1, hI1⟩
  · have HE : Hid (Q (.returned (.tuple #[.pointer none, .int .i64 16])) V1) := by
      show Q _ _
      rw [HQ.out]
      exact ⟨16, s, ⟨P, HP.out, .inl ⟨hov, rfl⟩⟩, .inl ⟨by decide, rfl, hx1⟩⟩
    clear hov hx1
    try dsimp only
    go_wp2_with fail
    try go_ret
    exact HE.out
  have HOV := hid_of hov
  have HC0 : Hid (∃ O' N' cs, Col B O W g g' bi bn s P none 0 0 N' cs O' V1 ∧ colQ s 0 = (0, N', cs) ∧ 0 ≤ 512 * 0) := by
    refine ⟨O1, s.p.pool, [], ⟨hF1, HI0.out.fr hF1 (fun _ _ h => h) (fun h => h), hI1, RowL.nil _ _ _ _ _ _, HOK.out.pok.nP, fun ch h => by cases h⟩, rfl, by omega⟩
  have HC0 := hid_of HC0
  clear hov hx1 hF1 hI1
  try dsimp only
  have HSTP : Hid (∀ V cd, (colF s).1 = cd → cd ≠ 0 → W.Extends V → Q (.returned (.tuple #[.pointer none, .int .i64 cd])) V) := by
    intro V cd h1 h2 h3
    rw [HQ.out]
    exact ⟨cd, s, ⟨P, HP.out, .inr ⟨HOV.out, .inl ⟨h1.symm, h2⟩⟩⟩, .inl ⟨h2, rfl, h3⟩⟩
  go_upto_region 6 with fail
  clear hbi
  refine wp_loop_f 110 (co1I B O W g g' bi bn s P np) (fun f _ => np - (intOf (f 7)).toNat) rfl ⟨rfl, rfl, 0, none, 0, 0, by omega, by omega, rfl, rfl, HC0⟩ ?_
  clear HC0
  intro F V hrel
  obtain ⟨f0, f4, q, a, n, c, hq, hn40, f6, f7, HC⟩ := hrel
  have H7 := hid_of f7
  rw [frame110c, f0, f4, f6, f7]
  clear f0 f4 f6 f7
  obtain ⟨O2, N2, cs, hC, hcQ, hnq⟩ := HC.out
  have HCQ := hid_of hcQ
  have hmV := hC.old
  have hxW : W.Extends V := hC.fr.toExt
  have hbi : blk V bi = some CI := (hxW.blk (blk_lt HM.out.cell)).trans HM.out.cell
  obtain ⟨Ce, pa, pc, da, dc, ra0, rc0, z1, z2, z3, z4, z5, z6, z7, z8, z9⟩ := (ProgL.c HM.out.progL).cells
  obtain rfl : CI = Ce := Option.some.inj (HM.out.cell.symm.trans z1)
  have HZ8 := hid_of z8
  clear z1 z2 z3 z5 z6 z7 z9
  rw [← HNP.out] at z4
  by_cases hin : q < np
  rotate_left 1
  · have hin' : ¬ (q : Int) < (np : Int) := by omega
    obtain rfl : q = np := by omega
    have hcF : colF s = (0, N2, cs) := by unfold colF; rw [← HNP.out]; exact hcQ
    obtain ⟨CN, bstN, beN, AN, hmN⟩ := hC.new
    have hbn := hmN.cell
    have n5 := hmN.ic.c5
    have nl5 : 5 < CN.length := by rw [hmN.ic.len]; omega
    have hRw := (hC.row.rw Change.length_enc).1
    have hncs : n = cs.length := hRw.1.symm
    have hbt := ebatch_any hmN.eng hmN.ego (ProgL.c hmN.progL) HOK.out.pok hmN.st HP.out.2 HOV.out a n c cs hRw (by omega) (fun ch hc => (hC.ok ch hc).1)
    have HMN := hid_of hmN
    have HCC := hid_of hC
    have HCF := hid_of hcF
    have HNC := hid_of hncs
    clear HC hC hcQ hmV hmN hRw hcF hncs hnq
    go_wp2_with fail
    refine hbt.mono ?_
    rintro en V2 ⟨cd, ix, R', rfl, hBR, O3, hF3, hS3⟩
    try dsimp only
    clear hbt
    have hx2 : W.Extends V2 := (HCC.out.fr.fresh hF3 (fun k hk e => HFR.out k hk (isI_S e))).toExt
    by_cases hcd : cd = 0
    rotate_left 1
    · have HE : Hid (Q (.returned (.tuple #[.pointer none, .int .i64 cd])) V2) := by
        show Q _ _
        rw [HQ.out]
        exact ⟨cd, s, ⟨P, HP.out, .inr ⟨HOV.out, .inr ⟨by rw [HCF.out], ix, R', by rw [HCF.out]; exact hBR, fun e => absurd e hcd⟩⟩⟩, .inl ⟨hcd, rfl, hx2⟩⟩
      have hcb : (cd != 0) = true := by simp [hcd]
      clear hBR hF3 hS3 hx2 hbn hcd
      go_wp2_with fail
      try go_ret
      exact HE.out
    subst hcd
    have hI3 := HMN.out.sto hF3 hS3
    have hrow3 := HCC.out.row.fr hF3 (fun e => isI_scr8 g' (isI_S e))
    have HBR := hid_of hBR
    have HJ0 : Hid (∃ O', Fr (fun _ => False) O W O' V2 ∧ InsAt W.heap.size O' V2 g' bn ((cs.take 0).foldl setS ⟨s.p, N2, R', poolU s.p.pool.length, (s.p.pool.length : Int)⟩) ∧ RowL W.heap.size O' (.a 0 8) V2 248 6 (.slice a n c) cs.length (cs.flatMap Change.enc) ∧ UB (1000 + 4 * ((0 : Nat) : Int)) ((cs.take 0).foldl setS ⟨s.p, N2, R', poolU s.p.pool.length, (s.p.pool.length : Int)⟩)) := by
      refine ⟨O3, HCC.out.fr.fresh hF3 (fun k hk e => HFR.out k hk (isI_S e)), ⟨_, _, _, _, hI3⟩, hrow3, ?_⟩
      have := newS_UB s.p P HOK.out.pok.nP
      exact this
    obtain ⟨s0, hs0⟩ : ∃ s0 : InsS, s0 = ⟨s.p, N2, R', poolU s.p.pool.length, (s.p.pool.length : Int)⟩ := ⟨_, rfl⟩
    rw [← hs0] at HJ0
    have HS0 := hid_of hs0
    clear hBR hF3 hS3 hx2 hbn hI3 hrow3 hs0
    go_upto_region 21 with fail
    refine wp_loop_f 110 (co3I O W g' bn s0 a n c cs) (fun f _ => n - (intOf (f 12)).toNat) rfl ⟨rfl, rfl, 0, by omega, rfl, HJ0⟩ ?_
    clear HJ0 hbi
    intro F2 V3 hrel
    obtain ⟨f4, f6, j, hj, f12, HJ⟩ := hrel
    have H12 := hid_of f12
    rw [frame110c, f4, f6, f12]
    clear f4 f6 f12
    obtain ⟨O4, hF4, hI4, hR4, hU4⟩ := HJ.out
    by_cases hjn : j < n
    · have hjn' : (j : Int) < (n : Int) := by omega
      have j0 : (0 : Int) ≤ (j : Int) := by omega
      have j2 : ((j : Int)).toNat = j := by omega
      obtain ⟨ch, hch⟩ : ∃ ch, cs[j]? = some ch := ⟨_, List.getElem?_eq_getElem (by rw [← HNC.out]; exact hjn)⟩
      obtain ⟨bc, Cc, r1, r2, r3, r4, r5⟩ := Change_seg (hR4.rw Change.length_enc).1 hch
      subst r1
      obtain ⟨hk1, hk2⟩ := HCC.out.ok ch (List.mem_of_getElem? hch)
      have hp4 := (setsS_p (cs.take j) s0).1
      have hp5 : s0.p = s.p := by rw [HS0.out]
      have hq9 : ch.pred.toNat < ((cs.take j).foldl setS s0).p.preds.length := by rw [hp4, hp5]; exact hk1.2.1
      have hst := settleI_any (hI4) (by rw [hp4, hp5]; exact HOK.out.pok) hU4 (by omega) ch ch.pred.toNat (by have := hk1.1; omega) hq9 hk2
      have hnx : (cs.take (j + 1)).foldl setS s0 = setS ((cs.take j).foldl setS s0) ch := by rw [take_at hch, List.foldl_append]; rfl
      have hub := hU4.set hk2 (by rw [hp4, hp5]; exact (pI_ar HOK.out.pok hk1.2.1).2)
      rw [← hnx] at hst hub
      have HUB := hid_of hub
      have HF4 := hid_of hF4
      have HR4 := hid_of hR4
      clear HJ hF4 hI4 hR4 hU4 hch hk1 hk2 hp4 hp5 hq9 hnx hub
      go_wp2_with fail
      refine hst.mono ?_
      rintro en V4 ⟨rfl, O5, hF5, hI5⟩
      have HJ' : Hid (∃ O', Fr (fun _ => False) O W O' V4 ∧ InsAt W.heap.size O' V4 g' bn ((cs.take (j + 1)).foldl setS s0) ∧ RowL W.heap.size O' (.a 0 8) V4 248 6 (.slice (some ⟨bc, 0, none⟩) n c) cs.length (cs.flatMap Change.enc) ∧ UB (1000 + 4 * ((j + 1 : Nat) : Int)) ((cs.take (j + 1)).foldl setS s0)) := ⟨O5, HF4.out.fresh hF5 HFR.out, hI5, HR4.out.fr hF5 (isI_scr8 g'), by
        have := HUB.out
        have e : (1000 + 4 * ((j + 1 : Nat) : Int)) = 1000 + 4 * (j : Int) + 4 := by omega
        rw [e]; exact this⟩
      clear hst hF5 hI5 HF4 HR4 HUB r2
      try dsimp only
      go_wp2_with fail
      refine ⟨rfl, rfl, ⟨rfl, rfl, j + 1, by omega, ?_, HJ'⟩, ?_⟩
      · show Value.int .i64 _ = _
        go_num
      · show n - (intOf (Value.int .i64 _)).toNat < n - (intOf (F2 12)).toNat
        rw [H12.out]
        simp [intOf]; omega
    · have hjn' : ¬ (j : Int) < (n : Int) := by omega
      have HE : Hid (Q (.returned (.tuple #[.pointer (some ⟨bn, 0, none⟩), .int .i64 0])) V3) := by
        show Q _ _
        rw [HQ.out]
        rw [List.take_of_length_le (by rw [← HNC.out]; omega)] at hI4
        refine ⟨0, _, ⟨P, HP.out, .inr ⟨HOV.out, .inr ⟨by rw [HCF.out], ix, R', by rw [HCF.out]; exact HBR.out, fun _ => rfl⟩⟩⟩, .inr ⟨rfl, bn, O4, rfl, hF4, ?_⟩⟩
        rw [HCF.out]
        rw [HS0.out] at hI4
        exact hI4
      clear HJ hF4 hI4 hR4 hU4
      go_wp2_with fail
      try go_ret
      exact HE.out
  have hin' : (q : Int) < (np : Int) := by omega
  have q0 : (0 : Int) ≤ (q : Int) := by omega
  have q2 : ((q : Int)).toNat = q := by omega
  have hqp : q < s.p.preds.length := by rw [← HNP.out]; exact hin
  obtain ⟨bd, Cd, d1, d2, d3, d4, d5, d6, d7⟩ := pred_at z8 (pI_at hqp)
  subst d1
  have HD : Hid (∀ V', W.Extends V' → blk V' bd = some Cd) := fun V' hx => (hx.blk (blk_lt d2)).trans d2
  have hbd := HD.out V hxW
  have m1 : q * 3 + 1 < Cd.length := by omega
  have m0 : q * 3 < Cd.length := by omega
  clear d2 d3 d6 d7 z8
  obtain ⟨bs, hbs⟩ : ∃ bs, bs = (pI s.p q).base := ⟨_, rfl⟩
  rw [← hbs] at d5
  have HBS := hid_of hbs
  clear hbs
  cases bs with
  | false =>
    have HC' : Hid (∃ O' N' cs, Col B O W g g' bi bn s P a n c N' cs O' V ∧ colQ s (q + 1) = (0, N', cs) ∧ n ≤ 512 * (q + 1)) := by
      refine ⟨O2, N2, cs, hC, ?_, by omega⟩
      show colL s q (if (pI s.p q).base then rowsAt s.R q else []) (colQ s q) = _
      rw [← HBS.out, if_neg (by decide)]
      exact hcQ
    clear HC hC hcQ hmV hxW
    go_wp2_with fail
    refine ⟨rfl, rfl, ⟨rfl, rfl, q + 1, a, n, c, by omega, by omega, rfl, ?_, HC'⟩, ?_⟩
    · show Value.int .i64 _ = _
      go_num
    · show np - (intOf (Value.int .i64 _)).toNat < np - (intOf (F 7)).toNat
      rw [H7.out]
      simp [intOf]; omega
  | true =>
    have hRl : s.R.length = np := by rw [HNP.out]; exact HOK.out.inv.2
    obtain ⟨rows, hrows⟩ : ∃ rows, s.R[q]? = some rows := ⟨_, List.getElem?_eq_getElem (by omega)⟩
    have hra := rowsAt_some hrows
    have hr512 : rows.length ≤ 512 := by
      have := HOK.out.cap
      unfold overB at this
      rw [List.any_eq_false] at this
      have h9 := this rows (List.mem_of_getElem? hrows)
      simpa using h9
    have hls := list_any (HM.out.st.ext hxW) hrows (by omega) (by omega)
    have HRA := hid_of hra
    have HCC := hid_of hC
    clear HC hC hcQ hmV
    go_wp2_with fail
    refine hls.mono ?_
    rintro en V2 ⟨ra, ln, rc, rfl, hO2⟩
    try dsimp only
    have hln : ln = rows.length := hO2.2.2
    have hl512 : ln ≤ 512 := by omega
    have HLN := hid_of hln
    have HC2 : Hid (∃ O' N' cs, Col B O W g g' bi bn s P a n c N' cs O' V2 ∧ colL s q (rows.take 0) (colQ s q) = (0, N', cs) ∧ n ≤ 512 * q + 0 ∧ Rw tpl 4 (core O' V2) ra ln rows) := ⟨_, N2, cs, HCC.out.ext hO2.2.1, HCQ.out, by omega, outs_core hO2⟩
    clear hls hO2 HCC hln hrows hra hbd hbi hxW
    go_upto_region 11 with fail
    refine wp_loop_f 110 (co2I B O W g g' bi bn s P q ra ln rc rows) (fun f _ => ln - (intOf (f 9)).toNat) rfl ⟨rfl, rfl, rfl, rfl, 0, a, n, c, by omega, by omega, rfl, rfl, HC2⟩ ?_
    clear HC2
    intro F2 V3 hrel
    obtain ⟨f0, f4, f7, f8, i, a2, n2, c2, hi, hn2, f6, f9, HC2⟩ := hrel
    have H9 := hid_of f9
    rw [frame110c, f0, f4, f6, f7, f8, f9]
    clear f0 f4 f6 f7 f8 f9
    obtain ⟨O3, N3, cs3, hC3, hcL, hn3, hRr⟩ := HC2.out
    by_cases hiq : i < ln
    rotate_left 1
    · have hiq' : ¬ (i : Int) < (ln : Int) := by omega
      have HC' : Hid (∃ O' N' cs, Col B O W g g' bi bn s P a2 n2 c2 N' cs O' V3 ∧ colQ s (q + 1) = (0, N', cs) ∧ n2 ≤ 512 * (q + 1)) := by
        refine ⟨O3, N3, cs3, hC3, ?_, by omega⟩
        rw [List.take_of_length_le (by rw [← HLN.out]; omega)] at hcL
        show colL s q (if (pI s.p q).base then rowsAt s.R q else []) (colQ s q) = _
        rw [← HBS.out, if_pos rfl, HRA.out]
        exact hcL
      clear HC2 hC3 hcL hRr
      go_wp2_with fail
      refine ⟨rfl, rfl, ⟨rfl, rfl, q + 1, a2, n2, c2, by omega, by omega, rfl, ?_, HC'⟩, ?_⟩
      · show Value.int .i64 _ = _
        go_num
      · show np - (intOf (Value.int .i64 _)).toNat < np - (intOf (F 7)).toNat
        rw [H7.out]
        simp [intOf]; omega
    have hiq' : (i : Int) < (ln : Int) := by omega
    have i0 : (0 : Int) ≤ (i : Int) := by omega
    have i2 : ((i : Int)).toNat = i := by omega
    obtain ⟨tx, htx⟩ : ∃ tx, rows[i]? = some tx := ⟨_, List.getElem?_eq_getElem (by rw [← HLN.out]; exact hiq)⟩
    obtain ⟨bq, Cq, r1, r2, r3, r4, r5⟩ := tup_at hRr.uncore htx
    subst r1
    have hor : O3 bq = .no := by
      obtain ⟨b9, C9, w1, w2, _⟩ := tup_at hRr htx
      have e1 : bq = b9 := congrArg Addr.block (Option.some.inj w1)
      rw [e1]; exact (core_blk w2).2
    have r6 : i * 4 + 4 ≤ Cq.length := r3
    have hxW : W.Extends V3 := hC3.fr.toExt
    obtain ⟨ar, har⟩ : ∃ ar, ar = arP s.p q := ⟨_, rfl⟩
    obtain ⟨har1, har2⟩ := pI_ar HOK.out.pok hqp
    rw [har1, ← har] at d4
    rw [← har] at har2
    have HAR := hid_of har
    have hval : ∀ c, c < ar → 0 ≤ tg tx c ∧ (tg tx c).toNat < s.N.length := fun c hc => by
      have h1 : tx ∈ rowsAt s.R q := by rw [HRA.out]; exact List.mem_of_getElem? htx
      exact ⟨((HOK.out.inv.1.at q).2 tx h1 c (by omega)).1, HOK.out.val q tx h1 c (by rw [← HAR.out]; exact hc)⟩
    have HVAL := hid_of hval
    have HNM : Hid (∀ Ox Vx, InsAt B Ox Vx g bi s → Calls Tryz.prog 144 #[.pointer (some ⟨bi, 0, none⟩), .agg (arr i64v tx).toArray, .int .i64 (ar : Int)] Vx fun e V => ∃ a c, e = .returned (.slice a ar c) ∧ OutG encS 1 9 Vx V a ar c (nmsT s.N tx ar)) := fun Ox Vx h => names_any h tx ar har2 HVAL.out
    have HIN : Hid (∀ Ox Vx aa ac, InsAt W.heap.size Ox Vx g' bn ⟨s.p, N3, P, poolU s.p.pool.length, (s.p.pool.length : Int)⟩ → W.heap.size ≤ Vx.heap.size → Rw encS 1 (core Ox Vx) aa ar (nmsT s.N tx ar) → Calls Tryz.prog 133 #[.pointer (some ⟨bn, 0, none⟩), .slice aa ar ac] Vx (fun e V => ∃ O' cd T N', e = .returned (.tuple #[.agg (arr i64v T).toArray, .int .i64 cd]) ∧ Fr (isS g') Ox Vx O' V ∧ InsAt W.heap.size O' V g' bn ⟨s.p, N', P, poolU s.p.pool.length, (s.p.pool.length : Int)⟩ ∧ IntR N3 (nmsT s.N tx ar) cd T N' ∧ N'.length ≤ 256)) := fun Ox Vx aa ac h hB hA => (internI_any h hB hC3.nl aa ar ac (nmsT s.N tx ar) hA har2).mono (fun e V h => intPost_L hC3.nl h)
    have HC3 := hid_of hC3
    have HCL := hid_of hcL
    have HTX := hid_of htx
    have HRR := hid_of hRr
    have HN3 := hid_of hC3.nl
    obtain ⟨Xa, hXa⟩ : ∃ Xa, Xa = nmsT s.N tx ar := ⟨_, rfl⟩
    rw [← hXa] at HNM HIN
    have HXA := hid_of hXa
    have HK : Hid (∀ V', W.Extends V' → blk V' bi = some CI ∧ blk V' bd = some Cd) := fun V' hx => ⟨(hx.blk (blk_lt HM.out.cell)).trans HM.out.cell, HD.out V' hx⟩
    have hS0 : blk V3 bi = some CI ∧ blk V3 bd = some Cd ∧ blk V3 bq = some Cq := ⟨(HK.out V3 hxW).1, (HK.out V3 hxW).2, r2⟩
    have HS : Hid (∀ V', V3.Extends V' → blk V' bi = some CI ∧ blk V' bd = some Cd ∧ blk V' bq = some Cq) := fun V' hx => ⟨(HK.out V' (hxW.trans hx)).1, (HK.out V' (hxW.trans hx)).2, (hx.blk (blk_lt r2)).trans r2⟩
    have HSF : Hid (∀ Ox Vx Oy Vy, V3.Extends Vx → (∀ k, k < V3.heap.size → Ox k = O3 k) → Fr (isS g') Ox Vx Oy Vy → blk Vy bi = some CI ∧ blk Vy bd = some Cd ∧ blk Vy bq = some Cq) := by
      intro Ox Vx Oy Vy hx hk hF
      have hxW' : W.Extends Vy := by
        refine hF.extends (hxW.trans hx) (fun k hk' e => ?_)
        rw [hk k (Nat.lt_of_lt_of_le hk' hxW.size), hC3.fr.keep k hk'] at e
        exact HFR.out k hk' (isI_S e)
      refine ⟨(HK.out Vy hxW').1, (HK.out Vy hxW').2, hF.blk ((HS.out Vx hx).2.2) ?_⟩
      rw [hk bq (blk_lt r2), hor]; exact isS_no g'
    have HOR := hid_of hor
    clear hC3 hcL hRr htx HC2 hval hXa har har1 hxW hor r3
    go_upto_region 13 with fail
    obtain ⟨R13, hR13⟩ : ∃ R13 : Act → Act → World → Prop, R13 = fun a0 a' w' => ∃ (b10 : Nat) (cd : Int) (f : Nat → Value), a' = ⟨frameN 110 f, []⟩ ∧ f 0 = .pointer (some ⟨bi, 0, none⟩) ∧ f 4 = .pointer (some ⟨bn, 0, none⟩) ∧ f 6 = .slice a2 n2 c2 ∧ f 7 = .int .i64 (q : Nat) ∧ f 8 = .slice (some ⟨bq, 0, none⟩) ln rc ∧ f 9 = .int .i64 (i : Nat) ∧ f 10 = .pointer (some ⟨b10, 0, none⟩) ∧ f 11 = .int .i64 cd ∧ Hid (∃ O' N' T, Col B O W g g' bi bn s P a2 n2 c2 N' cs3 O' w' ∧ IntR N3 Xa cd T N' ∧ blk w' b10 = some (arr i64v T) ∧ Rw tpl 4 (core O' w') (some ⟨bq, 0, none⟩) ln rows) := ⟨_, rfl⟩
    have HR13 := hid_of hR13
    clear hR13
    have HFIN : Hid (∀ (b : Nat) (Oy : Own) (Vy : World) (N' : List (List UInt8)) (cd : Int) (T : Tup) (Z : List Value), Col B O W g g' bi bn s P a2 n2 c2 N' cs3 Oy Vy → IntR N3 Xa cd T N' → Oy b = .a 0 9 → W.heap.size ≤ b → blk Vy b = some Z → Rw tpl 4 (core Oy Vy) (some ⟨bq, 0, none⟩) ln rows → ∃ O' N' T', Col B O W g g' bi bn s P a2 n2 c2 N' cs3 O' (put Vy b (arr i64v T)) ∧ IntR N3 Xa cd T' N' ∧ blk (put Vy b (arr i64v T)) b = some (arr i64v T') ∧ Rw tpl 4 (core O' (put Vy b (arr i64v T))) (some ⟨bq, 0, none⟩) ln rows) := by
      intro b Oy Vy N' cd T Z h1 h2 h3 h4 h5 h6
      refine ⟨Oy, N', T, h1.scr h3 h4 _, h2, by rw [blk_put, if_pos rfl, h5]; rfl, h6.sub (Sub.ext (core_fr ((Fr.refl (fun l => l = .a 0 9) Oy Vy).put (L := fun l => l = .a 0 9) h3 _) (fun e => by cases e)))⟩
    refine wp_cutR R13 ?_ ?_
    · rw [HR13.out]
      clear HR13 HQ HOK HP HSTP HVAL HXA HOV HI0 HXP HZ8 HNP HD HRA HCL HTX
      refine wp_region_held_drew (S := fun W' => blk W' bi = some CI ∧ blk W' bd = some Cd ∧ blk W' bq = some Cq) (by kernel_rfl) (HS.out _ (extd V3)) (fun hHeld => ?_)
      refine wpAnyH_take (i := 0) (oi := ⟨_, _, _, _, _, _⟩) (v := ?_) rfl (by kernel_rfl) (by kernel_rfl) (by kernel_rfl) (fun _ _ _ h => nomatch h.1) (Or.inl ⟨by rfl, ?_⟩) (by assumption) ?_
      rotate_left 1
      · intro W' hSw
        obtain ⟨hS1, hS2, hS3⟩ := hSw
        go_simp
        try with_reducible rfl
      try simp only [Act.put, List.setIfInBounds_toArray, List.set_cons_zero, List.set_cons_succ]
      refine wpAnyH_take (i := 1) (oi := ⟨_, _, _, _, _, _⟩) (v := ?_) rfl (by kernel_rfl) (by kernel_rfl) (by kernel_rfl) (fun _ _ _ h => nomatch h.1) (Or.inl ⟨by rfl, ?_⟩) (by assumption) ?_
      rotate_left 1
      · intro W' hSw
        obtain ⟨hS1, hS2, hS3⟩ := hSw
        go_simp
        try with_reducible rfl
      try simp only [Act.put, List.setIfInBounds_toArray, List.set_cons_zero, List.set_cons_succ]
      refine wpAnyH_take (i := 2) (oi := ⟨_, _, _, _, _, _⟩) (v := ?_) rfl (by kernel_rfl) (by kernel_rfl) (by kernel_rfl) (fun _ _ _ h => nomatch h.1) (Or.inl ⟨by rfl, ?_⟩) (by assumption) ?_
      rotate_left 1
      · intro W' hSw
        obtain ⟨hS1, hS2, hS3⟩ := hSw
        go_simp
        try with_reducible rfl
      try simp only [Act.put, List.setIfInBounds_toArray, List.set_cons_zero, List.set_cons_succ]
      refine wpAnyH_take (i := 3) (oi := ⟨_, _, _, _, _, _⟩) (v := ?_) rfl (by kernel_rfl) (by kernel_rfl) (by kernel_rfl) (fun _ _ _ h => nomatch h.1) (Or.inl ⟨by rfl, ?_⟩) (by assumption) ?_
      rotate_left 1
      · intro W' hSw
        obtain ⟨hS1, hS2, hS3⟩ := hSw
        go_simp
        try with_reducible rfl
      try simp only [Act.put, List.setIfInBounds_toArray, List.set_cons_zero, List.set_cons_succ]
      refine wpAnyH_take (i := 4) (oi := ⟨_, _, _, _, _, _⟩) (v := ?_) rfl (by kernel_rfl) (by kernel_rfl) (by kernel_rfl) (fun _ _ _ h => nomatch h.1) (Or.inl ⟨by rfl, ?_⟩) (by assumption) ?_
      rotate_left 1
      · intro W' hSw
        obtain ⟨hS1, hS2, hS3⟩ := hSw
        go_simp
        try with_reducible rfl
      try simp only [Act.put, List.setIfInBounds_toArray, List.set_cons_zero, List.set_cons_succ]
      refine wpAnyH_take (i := 5) (oi := ⟨_, _, _, _, _, _⟩) (v := ?_) rfl (by kernel_rfl) (by kernel_rfl) (by kernel_rfl) (fun _ _ _ h => nomatch h.1) (Or.inl ⟨by rfl, ?_⟩) (by assumption) ?_
      rotate_left 1
      · intro W' hSw
        obtain ⟨hS1, hS2, hS3⟩ := hSw
        go_simp
        try with_reducible rfl
      try simp only [Act.put, List.setIfInBounds_toArray, List.set_cons_zero, List.set_cons_succ]
      refine wpAnyH_take (i := 6) (oi := ⟨_, _, _, _, _, _⟩) (v := ?_) rfl (by kernel_rfl) (by kernel_rfl) (by kernel_rfl) (fun _ _ _ h => nomatch h.1) (Or.inl ⟨by rfl, ?_⟩) (by assumption) ?_
      rotate_left 1
      · intro W' hSw
        obtain ⟨hS1, hS2, hS3⟩ := hSw
        go_simp
        try with_reducible rfl
      try simp only [Act.put, List.setIfInBounds_toArray, List.set_cons_zero, List.set_cons_succ]
      refine wpAnyH_take (i := 7) (oi := ⟨_, _, _, _, _, _⟩) (v := ?_) rfl (by kernel_rfl) (by kernel_rfl) (by kernel_rfl) (fun _ _ _ h => nomatch h.1) (Or.inl ⟨by rfl, ?_⟩) (by assumption) ?_
      rotate_left 1
      · intro W' hSw
        obtain ⟨hS1, hS2, hS3⟩ := hSw
        go_simp
        try with_reducible rfl
      try simp only [Act.put, List.setIfInBounds_toArray, List.set_cons_zero, List.set_cons_succ]
      refine wpAnyH_take (i := 8) (oi := ⟨_, _, _, _, _, _⟩) (v := ?_) rfl (by kernel_rfl) (by kernel_rfl) (by kernel_rfl) (fun _ _ _ h => nomatch h.1) (Or.inl ⟨by rfl, ?_⟩) (by assumption) ?_
      rotate_left 1
      · intro W' hSw
        obtain ⟨hS1, hS2, hS3⟩ := hSw
        go_simp
        try with_reducible rfl
      try simp only [Act.put, List.setIfInBounds_toArray, List.set_cons_zero, List.set_cons_succ]
      refine wpAnyH_take (i := 9) (oi := ⟨_, _, _, _, _, _⟩) (v := ?_) rfl (by kernel_rfl) (by kernel_rfl) (by kernel_rfl) (fun _ _ _ h => nomatch h.1) (Or.inl ⟨by rfl, ?_⟩) (by assumption) ?_
      rotate_left 1
      · intro W' hSw
        obtain ⟨hS1, hS2, hS3⟩ := hSw
        go_simp
        try with_reducible rfl
      try simp only [Act.put, List.setIfInBounds_toArray, List.set_cons_zero, List.set_cons_succ]
      refine wpAnyH_take (i := 10) (oi := ⟨_, _, _, _, _, _⟩) (v := ?_) rfl (by kernel_rfl) (by kernel_rfl) (by kernel_rfl) (fun _ _ _ h => nomatch h.1) (Or.inl ⟨by rfl, ?_⟩) (by assumption) ?_
      rotate_left 1
      · intro W' hSw
        obtain ⟨hS1, hS2, hS3⟩ := hSw
        go_simp
        try with_reducible rfl
      try simp only [Act.put, List.setIfInBounds_toArray, List.set_cons_zero, List.set_cons_succ]
      refine wpAnyH_take (i := 11) (oi := ⟨_, _, _, _, _, _⟩) (v := ?_) rfl (by kernel_rfl) (by kernel_rfl) (by kernel_rfl) (fun _ _ _ h => nomatch h.1) (Or.inl ⟨by rfl, ?_⟩) (by assumption) ?_
      rotate_left 1
      · intro W' hSw
        obtain ⟨hS1, hS2, hS3⟩ := hSw
        go_simp
        try with_reducible rfl
      try simp only [Act.put, List.setIfInBounds_toArray, List.set_cons_zero, List.set_cons_succ]
      refine wpAnyH_take (i := 12) (oi := ⟨_, _, _, _, _, _⟩) (v := ?_) rfl (by kernel_rfl) (by kernel_rfl) (by kernel_rfl) (fun _ _ _ h => nomatch h.1) (Or.inl ⟨by rfl, ?_⟩) (by assumption) ?_
      rotate_left 1
      · intro W' hSw
        obtain ⟨hS1, hS2, hS3⟩ := hSw
        go_simp
        try with_reducible rfl
      try simp only [Act.put, List.setIfInBounds_toArray, List.set_cons_zero, List.set_cons_succ]
      refine wpAnyH_take (i := 13) (oi := ⟨_, _, _, _, _, _⟩) (v := ?_) rfl (by kernel_rfl) (by kernel_rfl) (by kernel_rfl) (fun _ _ _ h => nomatch h.1) (Or.inl ⟨by rfl, ?_⟩) (by assumption) ?_
      rotate_left 1
      · intro W' hSw
        obtain ⟨hS1, hS2, hS3⟩ := hSw
        go_simp
        try with_reducible rfl
      try simp only [Act.put, List.setIfInBounds_toArray, List.set_cons_zero, List.set_cons_succ]
      refine wpAnyH_take (i := 14) (oi := ⟨_, _, _, _, _, _⟩) (v := ?_) rfl (by kernel_rfl) (by kernel_rfl) (by kernel_rfl) (fun _ _ _ h => nomatch h.1) (Or.inl ⟨by rfl, ?_⟩) (by assumption) ?_
      rotate_left 1
      · intro W' hSw
        obtain ⟨hS1, hS2, hS3⟩ := hSw
        go_simp
        try with_reducible rfl
      try simp only [Act.put, List.setIfInBounds_toArray, List.set_cons_zero, List.set_cons_succ]
      refine wpAnyH_ready (rs := [15, 20]) (by kernel_rfl) (by simp) ?_
      refine AllReadyH.cons (o := ⟨_, _, _, _, _, _⟩) rfl (fun K' hK => ?_) (AllReadyH.cons (o := ⟨_, _, _, _, _, _⟩) rfl (fun K' hK => ?_) AllReadyH.nil)
      · have hc3 := HC3.out.draw
        go_simp
        refine (HNM.out O3 (V3.drew) hc3.old).mono ?_
        rintro en V5 ⟨na, nc, rfl, hO5⟩
        try dsimp only
        have hx5 : V3.Extends V5 := (extd V3).trans hO5.2.1
        obtain ⟨OX, hOX⟩ : ∃ OX, OX = lab O3 V3.drew.heap.size .no := ⟨_, rfl⟩
        have hc5 := hc3.ext hO5.2.1
        have hr5 : Rw tpl 4 (core (lab O3 V3.drew.heap.size .no) V5) (some ⟨bq, 0, none⟩) ln rows := HRR.out.sub (Sub.ext (core_new ((extd V3).trans hO5.2.1) .no))
        have hrw5 : Rw encS 1 (core (lab O3 V3.drew.heap.size .no) V5) na ar Xa := (hO5.nw el50).sub (newc_core O3)
        have hk5 : ∀ k, k < V3.heap.size → (lab O3 V3.drew.heap.size .no) k = O3 k := fun k hk => lab_lt hk
        rw [← hOX] at hc5 hr5 hrw5 hk5
        have hsz5 : W.heap.size ≤ V5.heap.size := hc5.fr.size
        have HC5 := hid_of hc5
        have HR5 := hid_of hr5
        have HW5 := hid_of hrw5
        have HK5 := hid_of hk5
        have HX5 := hid_of hx5
        clear hc5 hr5 hrw5 hk5 hO5 hc3 hOX
        refine hK.out _ _ (HS.out _ HX5.out) (fun hHeld => ?_)
        clear hK K'
        try simp only [Act.put, List.setIfInBounds_toArray, List.set_cons_zero, List.set_cons_succ]
        refine wpAnyH_ready (rs := [16, 20]) (by kernel_rfl) (by simp) ?_
        refine AllReadyH.cons (o := ⟨_, _, _, _, _, _⟩) rfl (fun K' hK => ?_) (AllReadyH.cons (o := ⟨_, _, _, _, _, _⟩) rfl (fun K' hK => ?_) AllReadyH.nil)
        · go_simp
          refine (HIN.out _ (V5) _ _ HC5.out.new hsz5 HW5.out).mono ?_
          rintro en V6 ⟨O6, cd, T, N6, rfl, hF6, hI6, hR6, hL6⟩
          try dsimp only
          have hS6 := HSF.out _ _ _ _ HX5.out HK5.out hF6
          have hc6 := HC5.out.next HNE.out HFR.out hF6 hI6 hL6
          have hr6 : Rw tpl 4 (core O6 V6) (some ⟨bq, 0, none⟩) ln rows := HR5.out.sub (Sub.ext (core_fr hF6 (isS_no g')))
          have HC6 := hid_of hc6
          have HR6 := hid_of hr6
          have HS6 := hid_of hS6
          have HIR := hid_of hR6
          clear hF6 hI6 hR6 hL6 hc6 hr6
          have HSE : Hid (∀ x, blk (V6.alloc x) bi = some CI ∧ blk (V6.alloc x) bd = some Cd ∧ blk (V6.alloc x) bq = some Cq) := fun x => by
            have hx : V6.Extends (V6.alloc x) := extends_alloc (ext_Ext (Ext.refl _)) _
            exact ⟨(hx.blk (blk_lt HS6.out.1)).trans HS6.out.1, (hx.blk (blk_lt HS6.out.2.1)).trans HS6.out.2.1, (hx.blk (blk_lt HS6.out.2.2)).trans HS6.out.2.2⟩
          refine hK.out _ _ hS6 (fun hHeld => ?_)
          clear hK K'
          try simp only [Act.put, List.setIfInBounds_toArray, List.set_cons_zero, List.set_cons_succ]
          refine wpAnyH_take (i := 17) (oi := ⟨_, _, _, _, _, _⟩) (v := ?_) rfl (by kernel_rfl) (by kernel_rfl) (by kernel_rfl) (fun _ _ _ h => nomatch h.1) (Or.inl ⟨by rfl, ?_⟩) (by assumption) ?_
          rotate_left 1
          · intro W' hSw
            obtain ⟨hS1, hS2, hS3⟩ := hSw
            go_simp
            try with_reducible rfl
          try simp only [Act.put, List.setIfInBounds_toArray, List.set_cons_zero, List.set_cons_succ]
          refine wpAnyH_take (i := 18) (oi := ⟨_, _, _, _, _, _⟩) (v := ?_) rfl (by kernel_rfl) (by kernel_rfl) (by kernel_rfl) (fun _ _ _ h => nomatch h.1) (Or.inl ⟨by rfl, ?_⟩) (by assumption) ?_
          rotate_left 1
          · intro W' hSw
            obtain ⟨hS1, hS2, hS3⟩ := hSw
            go_simp
            try with_reducible rfl
          try simp only [Act.put, List.setIfInBounds_toArray, List.set_cons_zero, List.set_cons_succ]
          refine wpAnyH_take (i := 19) (oi := ⟨_, _, _, _, _, _⟩) (v := ?_) rfl (by kernel_rfl) (by kernel_rfl) (by kernel_rfl) (fun _ _ _ h => nomatch h.1) (Or.inl ⟨by rfl, ?_⟩) (by assumption) ?_
          rotate_left 1
          · intro W' hSw
            obtain ⟨hS1, hS2, hS3⟩ := hSw
            go_simp
            try with_reducible rfl
          try simp only [Act.put, List.setIfInBounds_toArray, List.set_cons_zero, List.set_cons_succ]
          refine wpAnyH_ready (rs := [20]) (by kernel_rfl) (by simp) ?_
          refine AllReadyH.cons (o := ⟨_, _, _, _, _, _⟩) rfl (fun K' hK => ?_) AllReadyH.nil
          go_simp
          refine hK.out _ _ (HSE.out _) (fun hHeld => ?_)
          clear hK K'
          try simp only [Act.put, List.setIfInBounds_toArray, List.set_cons_zero, List.set_cons_succ]
          refine wpAnyH_ready (rs := [21]) (by kernel_rfl) (by simp) ?_
          refine AllReadyH.cons (o := ⟨_, _, _, _, _, _⟩) rfl (fun K' hK => ?_) AllReadyH.nil
          go_simp
          refine hK.out _ _ (HSE.out _) (fun hHeld => ?_)
          clear hK K'
          try simp only [Act.put, List.setIfInBounds_toArray, List.set_cons_zero, List.set_cons_succ]
          refine wpAnyH_take (i := 22) (oi := ⟨_, _, _, _, _, _⟩) (v := ?_) rfl (by kernel_rfl) (by kernel_rfl) (by kernel_rfl) (fun _ _ _ h => nomatch h.1) (Or.inl ⟨by rfl, ?_⟩) (by assumption) ?_
          rotate_left 1
          · intro W' hSw
            obtain ⟨hS1, hS2, hS3⟩ := hSw
            go_simp
            try with_reducible rfl
          try simp only [Act.put, List.setIfInBounds_toArray, List.set_cons_zero, List.set_cons_succ]
          refine wpAnyH_done (by kernel_rfl) ?_ _
          refine ⟨rfl, V6.heap.size, cd, cut_intro _ rfl ⟨rfl, rfl, rfl, rfl, rfl, rfl, rfl, rfl, ?_⟩⟩
          exact ⟨_, N6, T, HC6.out.alloc _, HIR.out, by rw [blk_alloc, if_pos rfl], HR6.out.sub (Sub.ext (core_new (extends_alloc (ext_Ext (Ext.refl _)) _) _))⟩
        · go_simp
          have hxa : V5.Extends (V5.alloc (.cells (arr i64v (Vector.replicate 4 (0 : Int))).toArray 214)) := extends_alloc (ext_Ext (Ext.refl _)) _
          have hcA := HC5.out.alloc (.cells (arr i64v (Vector.replicate 4 (0 : Int))).toArray 214)
          have hrA : Rw tpl 4 (core (lab OX V5.heap.size (.a 0 9)) (V5.alloc (.cells (arr i64v (Vector.replicate 4 (0 : Int))).toArray 214))) (some ⟨bq, 0, none⟩) ln rows := HR5.out.sub (Sub.ext (core_new hxa _))
          have hwA : Rw encS 1 (core (lab OX V5.heap.size (.a 0 9)) (V5.alloc (.cells (arr i64v (Vector.replicate 4 (0 : Int))).toArray 214))) na ar Xa := HW5.out.sub (Sub.ext (core_new hxa _))
          have hkA : ∀ k, k < V3.heap.size → (lab OX V5.heap.size (.a 0 9)) k = O3 k := fun k hk => by rw [lab_lt (Nat.lt_of_lt_of_le hk HX5.out.size)]; exact HK5.out k hk
          have hzA : W.heap.size ≤ (V5.alloc (.cells (arr i64v (Vector.replicate 4 (0 : Int))).toArray 214)).heap.size := hcA.fr.size
          have hoA : (lab OX V5.heap.size (.a 0 9)) V5.heap.size = .a 0 9 := lb1 _ _ _
          have hbA : blk (V5.alloc (.cells (arr i64v (Vector.replicate 4 (0 : Int))).toArray 214)) V5.heap.size = some (arr i64v (Vector.replicate 4 (0 : Int))) := by rw [blk_alloc, if_pos rfl]
          have hfA : free (V5.alloc (.cells (arr i64v (Vector.replicate 4 (0 : Int))).toArray 214)) V5.heap.size = true := by rw [free_alloc, if_pos rfl]
          have hSA := HS.out _ (HX5.out.trans hxa)
          have hXA := HX5.out.trans hxa
          have hlow : W.heap.size ≤ V5.heap.size := hsz5
          have hq1 := blk_lt (HS.out _ HX5.out).1
          have hq2 := blk_lt (HS.out _ HX5.out).2.1
          have hq3 := blk_lt (HS.out _ HX5.out).2.2
          obtain ⟨b10, hb10⟩ : ∃ b10, b10 = V5.heap.size := ⟨_, rfl⟩
          obtain ⟨OA, hOA⟩ : ∃ OA, OA = lab OX V5.heap.size (.a 0 9) := ⟨_, rfl⟩
          obtain ⟨VA, hVA⟩ : ∃ VA, VA = V5.alloc (.cells (arr i64v (Vector.replicate 4 (0 : Int))).toArray 214) := ⟨_, rfl⟩
          rw [← hOA] at hcA hrA hwA hkA hoA
          rw [← hVA] at hcA hrA hwA hzA hbA hfA hSA hXA ⊢
          rw [← hb10] at hoA hbA hfA hlow hq1 hq2 hq3 ⊢
          have HCA := hid_of hcA
          have HRA2 := hid_of hrA
          have HWA := hid_of hwA
          have HKA := hid_of hkA
          have HZA : Hid (W.heap.size ≤ VA.heap.size) := hzA
          have HOA : Hid (OA b10 = .a 0 9 ∧ blk VA b10 = some (arr i64v (Vector.replicate 4 (0 : Int))) ∧ free VA b10 = true) := ⟨hoA, hbA, hfA⟩
          have HXA2 := hid_of hXA
          have hlw10 : W.heap.size ≤ b10 := hlow
          clear hxa hcA hrA hwA hkA hzA hoA hbA hfA hXA hlow hb10 hOA hVA
          refine hK.out _ _ hSA (fun hHeld => ?_)
          clear hK K'
          try simp only [Act.put, List.setIfInBounds_toArray, List.set_cons_zero, List.set_cons_succ]
          refine wpAnyH_ready (rs := [16]) (by kernel_rfl) (by simp) ?_
          refine AllReadyH.cons (o := ⟨_, _, _, _, _, _⟩) rfl (fun K' hK => ?_) AllReadyH.nil
          go_simp
          refine (HIN.out _ (VA) _ _ HCA.out.new HZA.out HWA.out).mono ?_
          rintro en V6 ⟨O6, cd, T, N6, rfl, hF6, hI6, hR6, hL6⟩
          try dsimp only
          have hS6 := HSF.out _ _ _ _ HXA2.out HKA.out hF6
          have hc6 := HCA.out.next HNE.out HFR.out hF6 hI6 hL6
          have hr6 : Rw tpl 4 (core O6 V6) (some ⟨bq, 0, none⟩) ln rows := HRA2.out.sub (Sub.ext (core_fr hF6 (isS_no g')))
          have HC6 := hid_of hc6
          have HR6 := hid_of hr6
          have HS6 := hid_of hS6
          have HIR := hid_of hR6
          have hob6 : O6 b10 = .a 0 9 := (hF6.keep b10 (blk_lt HOA.out.2.1)).trans HOA.out.1
          have hb6z : blk V6 b10 = some (arr i64v (Vector.replicate 4 (0 : Int))) := hF6.blk HOA.out.2.1 (by rw [HOA.out.1]; exact scr_S g')
          have hf6z : free V6 b10 = true := hF6.free HOA.out.2.1 HOA.out.2.2 (by rw [HOA.out.1]; exact scr_S g')
          clear hF6 hI6 hR6 hL6 hc6 hr6
          have HSP : Hid (∀ C, blk (put V6 b10 C) bi = some CI ∧ blk (put V6 b10 C) bd = some Cd ∧ blk (put V6 b10 C) bq = some Cq) := fun C => by
            have h9 := HS6.out
            refine ⟨by rw [blk_put, if_neg (by omega)]; exact h9.1, by rw [blk_put, if_neg (by omega)]; exact h9.2.1, by rw [blk_put, if_neg (by omega)]; exact h9.2.2⟩
          refine hK.out _ _ hS6 (fun hHeld => ?_)
          clear hK K'
          try simp only [Act.put, List.setIfInBounds_toArray, List.set_cons_zero, List.set_cons_succ]
          refine wpAnyH_take (i := 17) (oi := ⟨_, _, _, _, _, _⟩) (v := ?_) rfl (by kernel_rfl) (by kernel_rfl) (by kernel_rfl) (fun _ _ _ h => nomatch h.1) (Or.inl ⟨by rfl, ?_⟩) (by assumption) ?_
          rotate_left 1
          · intro W' hSw
            obtain ⟨hS1, hS2, hS3⟩ := hSw
            go_simp
            try with_reducible rfl
          try simp only [Act.put, List.setIfInBounds_toArray, List.set_cons_zero, List.set_cons_succ]
          refine wpAnyH_take (i := 18) (oi := ⟨_, _, _, _, _, _⟩) (v := ?_) rfl (by kernel_rfl) (by kernel_rfl) (by kernel_rfl) (fun _ _ _ h => nomatch h.1) (Or.inl ⟨by rfl, ?_⟩) (by assumption) ?_
          rotate_left 1
          · intro W' hSw
            obtain ⟨hS1, hS2, hS3⟩ := hSw
            go_simp
            try with_reducible rfl
          try simp only [Act.put, List.setIfInBounds_toArray, List.set_cons_zero, List.set_cons_succ]
          refine wpAnyH_take (i := 19) (oi := ⟨_, _, _, _, _, _⟩) (v := ?_) rfl (by kernel_rfl) (by kernel_rfl) (by kernel_rfl) (fun _ _ _ h => nomatch h.1) (Or.inl ⟨by rfl, ?_⟩) (by assumption) ?_
          rotate_left 1
          · intro W' hSw
            obtain ⟨hS1, hS2, hS3⟩ := hSw
            go_simp
            try with_reducible rfl
          try simp only [Act.put, List.setIfInBounds_toArray, List.set_cons_zero, List.set_cons_succ]
          refine wpAnyH_ready (rs := [21]) (by kernel_rfl) (by simp) ?_
          refine AllReadyH.cons (o := ⟨_, _, _, _, _, _⟩) rfl (fun K' hK => ?_) AllReadyH.nil
          go_simp
          refine hK.out _ _ (HSP.out _) (fun hHeld => ?_)
          clear hK K'
          try simp only [Act.put, List.setIfInBounds_toArray, List.set_cons_zero, List.set_cons_succ]
          refine wpAnyH_take (i := 22) (oi := ⟨_, _, _, _, _, _⟩) (v := ?_) rfl (by kernel_rfl) (by kernel_rfl) (by kernel_rfl) (fun _ _ _ h => nomatch h.1) (Or.inl ⟨by rfl, ?_⟩) (by assumption) ?_
          rotate_left 1
          · intro W' hSw
            obtain ⟨hS1, hS2, hS3⟩ := hSw
            go_simp
            try with_reducible rfl
          try simp only [Act.put, List.setIfInBounds_toArray, List.set_cons_zero, List.set_cons_succ]
          refine wpAnyH_done (by kernel_rfl) ?_ _
          refine ⟨rfl, b10, cd, cut_intro _ rfl ⟨rfl, rfl, rfl, rfl, rfl, rfl, rfl, rfl, ?_⟩⟩
          exact HFIN.out b10 O6 V6 N6 cd T _ HC6.out HIR.out hob6 hlw10 hb6z HR6.out
      · go_simp
        have e9 : (V3.alloc (.cells (arr i64v (Vector.replicate 4 (0 : Int))).toArray 214)).drew = V3.drew.alloc (.cells (arr i64v (Vector.replicate 4 (0 : Int))).toArray 214) := rfl
        rw [e9]
        clear e9
        have hxa : V3.drew.Extends (V3.drew.alloc (.cells (arr i64v (Vector.replicate 4 (0 : Int))).toArray 214)) := extends_alloc (ext_Ext (Ext.refl _)) _
        have hc3 := HC3.out.draw
        have hcA := hc3.alloc (.cells (arr i64v (Vector.replicate 4 (0 : Int))).toArray 214)
        have hXA : V3.Extends (V3.drew.alloc (.cells (arr i64v (Vector.replicate 4 (0 : Int))).toArray 214)) := (extd V3).trans hxa
        have hrA : Rw tpl 4 (core (lab O3 V3.drew.heap.size (.a 0 9)) (V3.drew.alloc (.cells (arr i64v (Vector.replicate 4 (0 : Int))).toArray 214))) (some ⟨bq, 0, none⟩) ln rows := HRR.out.sub (Sub.ext (core_new hXA _))
        have hkA : ∀ k, k < V3.heap.size → (lab O3 V3.drew.heap.size (.a 0 9)) k = O3 k := fun k hk => lab_lt hk
        have hoA : (lab O3 V3.drew.heap.size (.a 0 9)) V3.drew.heap.size = .a 0 9 := lb1 _ _ _
        have hbA : blk (V3.drew.alloc (.cells (arr i64v (Vector.replicate 4 (0 : Int))).toArray 214)) V3.drew.heap.size = some (arr i64v (Vector.replicate 4 (0 : Int))) := by rw [blk_alloc, if_pos rfl]
        have hfA : free (V3.drew.alloc (.cells (arr i64v (Vector.replicate 4 (0 : Int))).toArray 214)) V3.drew.heap.size = true := by rw [free_alloc, if_pos rfl]
        have hSA := HS.out _ hXA
        have hlow : W.heap.size ≤ V3.drew.heap.size := hc3.fr.size
        have hq1 : bi < V3.drew.heap.size := blk_lt (w := V3) (HS.out _ (ext_Ext (Ext.refl _))).1
        have hq2 : bd < V3.drew.heap.size := blk_lt (w := V3) (HS.out _ (ext_Ext (Ext.refl _))).2.1
        have hq3 : bq < V3.drew.heap.size := blk_lt (w := V3) (HS.out _ (ext_Ext (Ext.refl _))).2.2
        obtain ⟨b10, hb10⟩ : ∃ b10, b10 = V3.drew.heap.size := ⟨_, rfl⟩
        obtain ⟨OA, hOA⟩ : ∃ OA, OA = lab O3 V3.drew.heap.size (.a 0 9) := ⟨_, rfl⟩
        obtain ⟨VA, hVA⟩ : ∃ VA, VA = V3.drew.alloc (.cells (arr i64v (Vector.replicate 4 (0 : Int))).toArray 214) := ⟨_, rfl⟩
        rw [← hOA] at hcA hrA hkA hoA
        rw [← hVA] at hcA hrA hbA hfA hSA hXA ⊢
        rw [← hb10] at hoA hbA hfA hlow hq1 hq2 hq3
        have hb10' : b10 = V3.heap.size := hb10
        first | rw [← hb10] | rw [← hb10'] | skip
        have HCA := hid_of hcA
        have HRA2 := hid_of hrA
        have HKA := hid_of hkA
        have HOA : Hid (OA b10 = .a 0 9 ∧ blk VA b10 = some (arr i64v (Vector.replicate 4 (0 : Int))) ∧ free VA b10 = true) := ⟨hoA, hbA, hfA⟩
        have HXA2 := hid_of hXA
        have hlw10 : W.heap.size ≤ b10 := hlow
        clear hxa hcA hrA hkA hoA hbA hfA hXA hlow hb10 hb10' hOA hVA hc3
        refine hK.out _ _ hSA (fun hHeld => ?_)
        clear hK K'
        try simp only [Act.put, List.setIfInBounds_toArray, List.set_cons_zero, List.set_cons_succ]
        refine wpAnyH_ready (rs := [15]) (by kernel_rfl) (by simp) ?_
        refine AllReadyH.cons (o := ⟨_, _, _, _, _, _⟩) rfl (fun K' hK => ?_) AllReadyH.nil
        go_simp
        refine (HNM.out OA (VA) HCA.out.old).mono ?_
        rintro en V5 ⟨na, nc, rfl, hO5⟩
        try dsimp only
        have hx5 : V3.Extends V5 := HXA2.out.trans hO5.2.1
        have hc5 := HCA.out.ext hO5.2.1
        have hr5 : Rw tpl 4 (core (lab OA VA.heap.size .no) V5) (some ⟨bq, 0, none⟩) ln rows := HRA2.out.sub (Sub.ext (core_new hO5.2.1 .no))
        have hrw5 : Rw encS 1 (core (lab OA VA.heap.size .no) V5) na ar Xa := (hO5.nw el50).sub (newc_core OA)
        have hbl : b10 < VA.heap.size := blk_lt HOA.out.2.1
        have hk5 : ∀ k, k < V3.heap.size → (lab OA VA.heap.size .no) k = O3 k := fun k hk => by rw [lab_lt (Nat.lt_of_lt_of_le hk HXA2.out.size)]; exact HKA.out k hk
        have hob : (lab OA VA.heap.size .no) b10 = .a 0 9 := by rw [lab_lt hbl]; exact HOA.out.1
        have hbb : blk V5 b10 = some (arr i64v (Vector.replicate 4 (0 : Int))) := (hO5.2.1.blk hbl).trans HOA.out.2.1
        have hfb : free V5 b10 = true := (free_of_heap (hO5.2.1.block b10 hbl)).trans HOA.out.2.2
        have hs5 := HS.out _ hx5
        obtain ⟨OC, hOC⟩ : ∃ OC, OC = lab OA VA.heap.size .no := ⟨_, rfl⟩
        rw [← hOC] at hc5 hr5 hrw5 hk5 hob
        have HCB := hid_of hc5
        have HRB := hid_of hr5
        have HWB := hid_of hrw5
        have HKB := hid_of hk5
        have HOB : Hid (OC b10 = .a 0 9 ∧ blk V5 b10 = some (arr i64v (Vector.replicate 4 (0 : Int))) ∧ free V5 b10 = true) := ⟨hob, hbb, hfb⟩
        have HXB := hid_of hx5
        have hsz5 : W.heap.size ≤ V5.heap.size := hc5.fr.size
        clear hc5 hr5 hrw5 hk5 hob hbb hfb hO5 hOC hbl
        refine hK.out _ _ hs5 (fun hHeld => ?_)
        clear hK K'
        try simp only [Act.put, List.setIfInBounds_toArray, List.set_cons_zero, List.set_cons_succ]
        refine wpAnyH_ready (rs := [16]) (by kernel_rfl) (by simp) ?_
        refine AllReadyH.cons (o := ⟨_, _, _, _, _, _⟩) rfl (fun K' hK => ?_) AllReadyH.nil
        go_simp
        refine (HIN.out _ (V5) _ _ HCB.out.new hsz5 HWB.out).mono ?_
        rintro en V6 ⟨O6, cd, T, N6, rfl, hF6, hI6, hR6, hL6⟩
        try dsimp only
        have hS6 := HSF.out _ _ _ _ HXB.out HKB.out hF6
        have hc6 := HCB.out.next HNE.out HFR.out hF6 hI6 hL6
        have hr6 : Rw tpl 4 (core O6 V6) (some ⟨bq, 0, none⟩) ln rows := HRB.out.sub (Sub.ext (core_fr hF6 (isS_no g')))
        have HC6 := hid_of hc6
        have HR6 := hid_of hr6
        have HS6 := hid_of hS6
        have HIR := hid_of hR6
        have hob6 : O6 b10 = .a 0 9 := (hF6.keep b10 (blk_lt HOB.out.2.1)).trans HOB.out.1
        have hb6z : blk V6 b10 = some (arr i64v (Vector.replicate 4 (0 : Int))) := hF6.blk HOB.out.2.1 (by rw [HOB.out.1]; exact scr_S g')
        have hf6z : free V6 b10 = true := hF6.free HOB.out.2.1 HOB.out.2.2 (by rw [HOB.out.1]; exact scr_S g')
        clear hF6 hI6 hR6 hL6 hc6 hr6
        have HSP : Hid (∀ C, blk (put V6 b10 C) bi = some CI ∧ blk (put V6 b10 C) bd = some Cd ∧ blk (put V6 b10 C) bq = some Cq) := fun C => by
          have h9 := HS6.out
          refine ⟨by rw [blk_put, if_neg (by omega)]; exact h9.1, by rw [blk_put, if_neg (by omega)]; exact h9.2.1, by rw [blk_put, if_neg (by omega)]; exact h9.2.2⟩
        refine hK.out _ _ hS6 (fun hHeld => ?_)
        clear hK K'
        try simp only [Act.put, List.setIfInBounds_toArray, List.set_cons_zero, List.set_cons_succ]
        refine wpAnyH_take (i := 17) (oi := ⟨_, _, _, _, _, _⟩) (v := ?_) rfl (by kernel_rfl) (by kernel_rfl) (by kernel_rfl) (fun _ _ _ h => nomatch h.1) (Or.inl ⟨by rfl, ?_⟩) (by assumption) ?_
        rotate_left 1
        · intro W' hSw
          obtain ⟨hS1, hS2, hS3⟩ := hSw
          go_simp
          try with_reducible rfl
        try simp only [Act.put, List.setIfInBounds_toArray, List.set_cons_zero, List.set_cons_succ]
        refine wpAnyH_take (i := 18) (oi := ⟨_, _, _, _, _, _⟩) (v := ?_) rfl (by kernel_rfl) (by kernel_rfl) (by kernel_rfl) (fun _ _ _ h => nomatch h.1) (Or.inl ⟨by rfl, ?_⟩) (by assumption) ?_
        rotate_left 1
        · intro W' hSw
          obtain ⟨hS1, hS2, hS3⟩ := hSw
          go_simp
          try with_reducible rfl
        try simp only [Act.put, List.setIfInBounds_toArray, List.set_cons_zero, List.set_cons_succ]
        refine wpAnyH_take (i := 19) (oi := ⟨_, _, _, _, _, _⟩) (v := ?_) rfl (by kernel_rfl) (by kernel_rfl) (by kernel_rfl) (fun _ _ _ h => nomatch h.1) (Or.inl ⟨by rfl, ?_⟩) (by assumption) ?_
        rotate_left 1
        · intro W' hSw
          obtain ⟨hS1, hS2, hS3⟩ := hSw
          go_simp
          try with_reducible rfl
        try simp only [Act.put, List.setIfInBounds_toArray, List.set_cons_zero, List.set_cons_succ]
        refine wpAnyH_ready (rs := [21]) (by kernel_rfl) (by simp) ?_
        refine AllReadyH.cons (o := ⟨_, _, _, _, _, _⟩) rfl (fun K' hK => ?_) AllReadyH.nil
        go_simp
        refine hK.out _ _ (HSP.out _) (fun hHeld => ?_)
        clear hK K'
        try simp only [Act.put, List.setIfInBounds_toArray, List.set_cons_zero, List.set_cons_succ]
        refine wpAnyH_take (i := 22) (oi := ⟨_, _, _, _, _, _⟩) (v := ?_) rfl (by kernel_rfl) (by kernel_rfl) (by kernel_rfl) (fun _ _ _ h => nomatch h.1) (Or.inl ⟨by rfl, ?_⟩) (by assumption) ?_
        rotate_left 1
        · intro W' hSw
          obtain ⟨hS1, hS2, hS3⟩ := hSw
          go_simp
          try with_reducible rfl
        try simp only [Act.put, List.setIfInBounds_toArray, List.set_cons_zero, List.set_cons_succ]
        refine wpAnyH_done (by kernel_rfl) ?_ _
        refine ⟨rfl, b10, cd, cut_intro _ rfl ⟨rfl, rfl, rfl, rfl, rfl, rfl, rfl, rfl, ?_⟩⟩
        exact HFIN.out b10 O6 V6 N6 cd T _ HC6.out HIR.out hob6 hlw10 hb6z HR6.out
    rw [HR13.out]
    rintro _ V4 ⟨b10, cd, f4, rfl, f0, f4', f6, f7, f8, f9, f10, f11, H4⟩
    rw [frame110c, f0, f4', f6, f7, f8, f9, f10, f11]
    clear f0 f4' f6 f7 f8 f9 f10 f11
    obtain ⟨O4, N4, T, hC4, hIR, hb10, hRr⟩ := H4.out
    have hcS : colL s q (rows.take (i + 1)) (colQ s q) = colS s (0, N3, cs3) (q, tx) := by rw [take_at HTX.out, colL_append, HCL.out]
    have hXl : Xa.length = ar := by rw [HXA.out, nmsT_len]
    have e7 : cd = intCode N3 Xa ar := by rw [← hXl]; exact hIR.1
    have hcS2 : colS s (0, N3, cs3) (q, tx) = if cd ≠ 0 then (cd, N3, cs3) else (0, nmS N3 Xa ar, cs3 ++ [⟨false, (q : Int), mkT (nmV N3 Xa) ar⟩]) := by
      unfold colS
      rw [if_neg (fun h => h rfl)]
      try dsimp only
      rw [← HAR.out, ← HXA.out, ← e7]
    rw [hcS2] at hcS
    by_cases hcd : cd = 0
    rotate_left 1
    · rw [if_pos hcd] at hcS
      have HE := hid_of (HSTP.out V4 cd (col_stop2 s hqp HBS.out.symm HRA.out hcS hcd) hcd hC4.fr.toExt)
      have hcb : (cd != 0) = true := by simp [hcd]
      clear H4 hC4 hIR hRr hcS hcS2 e7 hcd HN3
      go_wp2_with fail
      try go_ret
      exact HE.out
    subst hcd
    obtain ⟨hT, hN4⟩ := hIR.2 rfl
    rw [if_neg (fun h => h rfl), ← hXl, ← hT, ← hN4] at hcS
    obtain ⟨a', c', V5, hrun, hrow5, hF5⟩ := appL Change.enc 6 48 251 248 el173.und el173.info el173.len el173.one el173.pos el173.small 251 (⟨false, (q : Int), T⟩ : Change) hC4.row hC4.fr.size (by have := (hC4.row.rw Change.length_enc).1.1; omega) (Change.enc ⟨false, (q : Int), T⟩).toArray rfl 1
    have hTok : TOk T := by
      rw [hT]
      exact nmT_ok HN3.out (by omega) (fun c hc => intCode_all (by rw [hXl]; exact e7.symm) c hc)
    have HC' : Hid (∃ O' N' cs, Col B O W g g' bi bn s P a' (n2 + 1) c' N' cs O' V5 ∧ colL s q (rows.take (i + 1)) (colQ s q) = (0, N', cs) ∧ n2 + 1 ≤ 512 * q + (i + 1) ∧ Rw tpl 4 (core O' V5) (some ⟨bq, 0, none⟩) ln rows) := by
      have hno : ∀ k, k < W.heap.size → ¬ (fun y => y = Lab.a 0 8) (O k) := fun k hk e => HF8.out k hk e
      refine ⟨_, N4, _, ⟨hC4.fr.fresh hF5 hno, hC4.old.fr hF5 (fun l hl e => isI_scr8 g (e ▸ hl)) (fun e => by cases e), hC4.new.fr hF5 (fun l hl e => isI_scr8 g' (e ▸ hl)) (fun e => by cases e), hrow5, hC4.nl, fun ch hc => ?_⟩, hcS, by omega, hRr.sub (Sub.ext (core_fr hF5 (fun e => by cases e)))⟩
      rcases List.mem_append.1 hc with h | h
      · exact hC4.ok ch h
      · rw [List.mem_singleton.1 h]
        exact ⟨⟨by show (0 : Int) ≤ (q : Int); omega, by show ((q : Int)).toNat < _; rw [q2]; exact hqp, fun _ => hTok⟩, hTok⟩
    clear H4 hC4 hIR hRr hcS hcS2 e7 hT hN4 hrow5 hF5 hTok hXl HN3
    go_wp2_with (at_builtin; refine wpList_append_run rfl _ _ 251 rfl _ _ _ _ rfl rfl hrun ?_)
    refine ⟨rfl, rfl, ⟨rfl, rfl, rfl, rfl, i + 1, _, _, _, by omega, by omega, rfl, ?_, HC'⟩, ?_⟩
    · show Value.int .i64 _ = _
      go_num
    · show ln - (intOf (Value.int .i64 _)).toNat < ln - (intOf (F2 9)).toNat
      rw [H9.out]
      simp [intOf]; omega
end Go.Proofs.Qxb6500787aGreat
