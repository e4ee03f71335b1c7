
import Derived.Test.Qxb6500787aGreatTi
import Derived.StillTailTactics
import Derived.Deep.QuietTactic
import Derived.BigQuiet
import Derived.Deep.RegionHeld
import Derived.Deep.CutRange
import Derived.Laws.ResultCell
import Derived.Laws.Rows
import Derived.DeepKeys
import Derived.DataBytes
import Derived.Laws.StructEq
import Derived.Laws.AppendOwn
import Derived.Laws.MakeOwn
import Derived.Lib.AppendStr
set_option linter.unusedSimpArgs false
set_option linter.unusedVariables false
namespace Go.Proofs.Qxb6500787aGreat
open Go.RowKit Go.Blk
attribute [local go_sem ↓] execOp_load execOp_store execOp_alloc
attribute [local go_sem] Tryz.ld26 Tryz.st26 Tryz.ld27 Tryz.st27 Tryz.ld28 Tryz.st28 Tryz.ld3 Tryz.st3 Tryz.ld29 Tryz.st29 Tryz.ld44 Tryz.st44 Tryz.ld4 Tryz.st4 Tryz.ld50 Tryz.st50 Tryz.ld32 Tryz.st32 Tryz.ld49 Tryz.st49 Tryz.ld68 Tryz.st68 Tryz.ld9 Tryz.st9 Tryz.ld40 Tryz.st40 Tryz.ld138 Tryz.st138 Tryz.ld139 Tryz.st139 Tryz.ld146 Tryz.st146 Tryz.ld183 Tryz.st183 Tryz.ld184 Tryz.st184 Tryz.ld192 Tryz.st192 Tryz.ld195 Tryz.st195 Tryz.ld217 Tryz.st217 Tryz.ld159 Tryz.st159 Tryz.ld142 Tryz.st142 Tryz.ld2 Tryz.st2 Tryz.ld5 Tryz.st5 Tryz.ld12 Tryz.st12 Tryz.ld21 Tryz.st21 Tryz.ld22 Tryz.st22 Tryz.ld24 Tryz.st24 Tryz.ld58 Tryz.st58 Tryz.ld97 Tryz.st97 Tryz.ld101 Tryz.st101 Tryz.ld116 Tryz.st116 Tryz.ld121 Tryz.st121 Tryz.ld135 Tryz.st135 Tryz.ld136 Tryz.st136 Tryz.ld143 Tryz.st143 Tryz.ld148 Tryz.st148 Tryz.ld154 Tryz.st154 Tryz.ld173 Tryz.st173 Tryz.ld187 Tryz.st187 Tryz.ld222 Tryz.st222 Tryz.ld241 Tryz.st241 Tryz.ld248 Tryz.st248 Tryz.ld268 Tryz.st268 Tryz.ld272 Tryz.st272 Tryz.ld153 Tryz.st153 Tryz.ld255 Tryz.st255 Tryz.ld256 Tryz.st256 Tryz.ld129 Tryz.st129 Tryz.ld152 Tryz.st152 Tryz.ld31 Tryz.st31 Tryz.ld46 Tryz.st46 Tryz.ld52 Tryz.st52 Tryz.ld54 Tryz.st54 Tryz.ld60 Tryz.st60 Tryz.ld70 Tryz.st70 Tryz.ld74 Tryz.st74 Tryz.ld93 Tryz.st93 Tryz.ld141 Tryz.st141 Tryz.ld151 Tryz.st151 Tryz.ld170 Tryz.st170 Tryz.ld186 Tryz.st186 Tryz.ld189 Tryz.st189 Tryz.ld194 Tryz.st194 Tryz.ld197 Tryz.st197 Tryz.ld219 Tryz.st219 Tryz.ld224 Tryz.st224 Tryz.ld230 Tryz.st230 Tryz.ld235 Tryz.st235 Tryz.ld243 Tryz.st243 Tryz.ld247 Tryz.st247 Tryz.ld252 Tryz.st252 Tryz.ld258 Tryz.st258 Tryz.al153 Tryz.al255 Tryz.al256 Tryz.al129 Tryz.al152 Tryz.al31 Tryz.al46 Tryz.al52 Tryz.al54 Tryz.al60 Tryz.al70 Tryz.al74 Tryz.al93 Tryz.al141 Tryz.al151 Tryz.al170 Tryz.al186 Tryz.al189 Tryz.al194 Tryz.al197 Tryz.al219 Tryz.al224 Tryz.al230 Tryz.al235 Tryz.al243 Tryz.al247 Tryz.al252 Tryz.al258
attribute [local go_sem] Request.length_enc Request.ok_enc Request.all_get Request.all_set Request.kind_get Request.kind_set Request.blob_get Request.blob_set Request.items_get Request.items_set Request.pred_get Request.pred_set Request.slots_get Request.slots_set Trace.length_enc Trace.ok_enc Trace.all_get Trace.all_set Trace.op_get Trace.op_set Trace.calls_get Trace.calls_set Item.length_enc Item.ok_enc Item.all_get Item.all_set Item.del_get Item.del_set Item.pred_get Item.pred_set Item.args_get Item.args_set Reply.length_enc Reply.ok_enc Reply.all_get Reply.all_set Reply.code_get Reply.code_set Reply.kind_get Reply.kind_set Reply.index_get Reply.index_set Reply.yes_get Reply.yes_set Reply.preds_get Reply.preds_set Reply.rules_get Reply.rules_set Reply.arity_get Reply.arity_set Reply.rows_get Reply.rows_set Reply.fact_get Reply.fact_set Reply.fact_del_get Reply.fact_del_set Reply.fact_pred_get Reply.fact_pred_set Reply.fact_args_get Reply.fact_args_set GEntry.length_enc GEntry.ok_enc GEntry.all_get GEntry.all_set GEntry.seq_get GEntry.seq_set GEntry.kind_get GEntry.kind_set GEntry.code_get GEntry.code_set GOp.length_enc GOp.ok_enc GOp.all_get GOp.all_set GOp.kind_get GOp.kind_set GOp.raw_get GOp.raw_set Reader.length_enc Reader.ok_enc Reader.all_get Reader.all_set Reader.buf_get Reader.buf_set Reader.at__get Reader.at__set Slot.length_enc Slot.ok_enc Slot.all_get Slot.all_set Slot.bound_get Slot.bound_set Slot.name_get Slot.name_set Session.length_enc Session.ok_enc Session.all_get Session.all_set Session.svc_get Session.svc_set Session.buf_get Session.buf_set Session.closed_get Session.closed_set GProgram.length_enc GProgram.ok_enc GProgram.all_get GProgram.all_set GProgram.pool_get GProgram.pool_set GProgram.preds_get GProgram.preds_set GProgram.rules_get GProgram.rules_set GProgram.strata_get GProgram.strata_set PredInfo.length_enc PredInfo.ok_enc PredInfo.all_get PredInfo.all_set PredInfo.arity_get PredInfo.arity_set PredInfo.base_get PredInfo.base_set PredInfo.stratum_get PredInfo.stratum_set Change.length_enc Change.ok_enc Change.all_get Change.all_set Change.del_get Change.del_set Change.pred_get Change.pred_set Change.t_get Change.t_set Store.length_enc Store.ok_enc Store.all_get Store.all_set Store.names_get Store.names_set Store.arity_get Store.arity_set Store.rows_get Store.rows_set Src.length_enc Src.ok_enc Src.all_get Src.all_set Src.b_get Src.b_set Src.at__get Src.at__set Atom.length_enc Atom.ok_enc Atom.all_get Atom.all_set Atom.pred_get Atom.pred_set Atom.args_get Atom.args_set GRule.length_enc GRule.ok_enc GRule.all_get GRule.all_set GRule.head_get GRule.head_set GRule.body_get GRule.body_set GRule.head_pred_get GRule.head_pred_set GRule.head_args_get GRule.head_args_set Cert.length_enc Cert.ok_enc Cert.all_get Cert.all_set Cert.names_get Cert.names_set Cert.nodes_get Cert.nodes_set Fact.length_enc Fact.ok_enc Fact.all_get Fact.all_set Fact.pred_get Fact.pred_set Fact.t_get Fact.t_set Literal.length_enc Literal.ok_enc Literal.all_get Literal.all_set Literal.neg_get Literal.neg_set Literal.atom_get Literal.atom_set Literal.atom_pred_get Literal.atom_pred_set Literal.atom_args_get Literal.atom_args_set Engine.length_enc Engine.ok_enc Engine.all_get Engine.all_set Engine.prog_get Engine.prog_set Engine.st_get Engine.st_set SrcCertm.length_enc SrcCertm.ok_enc SrcCertm.all_get SrcCertm.all_set SrcCertm.b_get SrcCertm.b_set SrcCertm.at__get SrcCertm.at__set GNode.length_enc GNode.ok_enc GNode.all_get GNode.all_set GNode.rule_get GNode.rule_set GNode.pred_get GNode.pred_set GNode.vals_get GNode.vals_set GNode.refs_get GNode.refs_set Term.length_enc Term.ok_enc Term.all_get Term.all_set Term.var_get Term.var_set Term.n_get Term.n_set Env.length_enc Env.ok_enc Env.all_get Env.all_set Env.val_get Env.val_set Env.set_get Env.set_set
attribute [local go_sem] size_put size_ext blk_put free_put blk_alloc free_alloc blk_drew free_drew blk_ext free_ext lookOr_some putOr_some segAt_some cellAt_some storeIn_some put_put put_alloc_new length_arr ok_arr_u8 ok_arr_u32 ok_arr_u64 ok_arr_i64 ok_arr_sl cellsV_agg cellsV_int cellsV_bool cellsV_string cellsV_pointer cellsV_slice cellsV_sl ok_int ok_bool ok_string ok_pointer ok_slice ok_sl toList_arr seg_arr set_arr nth_splice nth_splice0 seg_splice seg_splice0 splice_splice splice_splice0 length_splice_if
attribute [local go_sem ↓] execOp_box
attribute [local go_sem] box_run nth_arr_u8 put_arr_u8 blk_drewN free_drewN put_drewN blk_raw free_raw
/-- The copy so far. -/
def cpR (B : List (List Tup)) (i : Nat) : List (List Tup) := B.take i ++ List.replicate (B.length - i) []
theorem cpR_zero (B : List (List Tup)) : cpR B 0 = List.replicate B.length [] := by simp [cpR]
theorem cpR_all (B : List (List Tup)) : cpR B B.length = B := by simp [cpR]
theorem cpR_len (B : List (List Tup)) {i : Nat} (h : i ≤ B.length) : (cpR B i).length = B.length := by simp [cpR]; omega
theorem cpR_set {B : List (List Tup)} {i : Nat} {L : List Tup} (h : B[i]? = some L) : (cpR B i).set i L = cpR B (i + 1) := by
  have hi : i < B.length := (List.getElem?_eq_some_iff.1 h).1
  unfold cpR
  rw [take_at h, List.set_append, if_neg (by rw [List.length_take]; omega)]
  have e : i - (B.take i).length = 0 := by rw [List.length_take]; omega
  have e2 : B.length - i = (B.length - (i + 1)) + 1 := by omega
  rw [e, e2, List.replicate_succ, List.set_cons_zero, List.append_assoc]; rfl
theorem step_false {h : Nat} : ∀ (ts : List Tup) (X : List (List Tup) × Bool), (ts.foldl (stepT h) X).2 = false → (ts.foldl (stepT h) X) = X
  | [], X, _ => rfl
  | t :: ts, X, hf => by
    rw [List.foldl_cons] at hf ⊢
    have ih := step_false ts _ hf
    rw [ih] at hf ⊢
    unfold stepT at hf ⊢
    by_cases hm : t ∈ rowsAt X.1 h
    · rw [if_pos hm]
    · rw [if_neg hm] at hf; cases hf
theorem build258 (w : World) : (buildOp 308 #[]).run Tryz.prog w = .ok (.value (.agg Env.zero.enc.toArray)) w := by kernel_rfl
def PerfPost (W : World) (p : PP) (B : List (List Tup)) (e : Ending) (V : World) : Prop := ∃ bo c R, e = .returned (.slice (some ⟨bo, 0, none⟩) p.preds.length c) ∧ W.Extends V ∧ RelR (newc W.heap.size V) (some ⟨bo, 0, none⟩) p.preds.length R ∧ RInv p R ∧ PerfTo p 0 B R
def p1I (W : World) (bp : Nat) (a : Option Addr) (n c bo : Nat) (B : List (List Tup)) (f : Nat → Value) (V : World) : Prop := f 0 = .pointer (some ⟨bp, 0, none⟩) ∧ f 1 = .slice a n c ∧ f 5 = .slice (some ⟨bo, 0, none⟩) n n ∧ ∃ i : Nat, i ≤ n ∧ f 6 = .int .i64 (i : Nat) ∧ Hid (∃ O, RelO W bo (cpR B i) O V ∧ ∀ q, i ≤ q → q < n → ∃ C, blk V bo = some C ∧ nth C q = some (.slice none 0 0))
def p2I (W : World) (p : PP) (bp n bo : Nat) (B : List (List Tup)) (f : Nat → Value) (V : World) : Prop := f 0 = .pointer (some ⟨bp, 0, none⟩) ∧ f 5 = .slice (some ⟨bo, 0, none⟩) n n ∧ ∃ s : Nat, (s : Int) ≤ p.strata ∧ f 7 = .int .i64 (s : Nat) ∧ Hid (∃ O R, RelO W bo R O V ∧ RInv p R ∧ ∀ R2, PerfTo p s R R2 → PerfTo p 0 B R2)
def p3I (W : World) (p : PP) (bp n bo s : Nat) (B : List (List Tup)) (μ : Nat) (f : Nat → Value) (V : World) : Prop := f 0 = .pointer (some ⟨bp, 0, none⟩) ∧ f 5 = .slice (some ⟨bo, 0, none⟩) n n ∧ f 7 = .int .i64 (s : Nat) ∧ ∃ g : Bool, f 8 = .bool g ∧ Hid (∃ O R, RelO W bo R O V ∧ RInv p R ∧ (μ = if g then 1 + (32768 - totR R) else 0) ∧ ∀ R2, PerfTo p (if g then s else s + 1) R R2 → PerfTo p 0 B R2)
def GRel (g : Bool) (R R0 : List (List Tup)) : Prop := (g = true → totR R0 < totR R ∧ overB R = false) ∧ (g = false → R = R0)
def p4I (W : World) (p : PP) (bp n bo s : Nat) (R0 : List (List Tup)) (f : Nat → Value) (V : World) : Prop := f 0 = .pointer (some ⟨bp, 0, none⟩) ∧ f 5 = .slice (some ⟨bo, 0, none⟩) n n ∧ f 7 = .int .i64 (s : Nat) ∧ ∃ (k : Nat) (g : Bool), k ≤ p.rules.length ∧ f 8 = .bool g ∧ f 9 = .int .i64 (k : Nat) ∧ Hid (∃ O R, RelO W bo R O V ∧ RInv p R ∧ rnd p s (p.rules.drop k) (R, g) = rnd p s p.rules (R0, false) ∧ GRel g R R0)
def p5I (W : World) (p : PP) (bp n bo s k h : Nat) (X0 : List (List Tup) × Bool) (fa : Option Addr) (fn fc : Nat) (ts : List Tup) (f : Nat → Value) (V : World) : Prop := f 0 = .pointer (some ⟨bp, 0, none⟩) ∧ f 5 = .slice (some ⟨bo, 0, none⟩) n n ∧ f 7 = .int .i64 (s : Nat) ∧ f 9 = .int .i64 (k : Nat) ∧ f 10 = .int .i64 (h : Nat) ∧ f 11 = .slice fa fn fc ∧ ∃ (j : Nat) (g : Bool), j ≤ fn ∧ f 8 = .bool g ∧ f 12 = .int .i64 (j : Nat) ∧ Hid (∃ O R, RelO W bo R O V ∧ RInv p R ∧ Rw tpl 4 (core O V) fa fn ts ∧ (ts.take j).foldl (stepT h) X0 = (R, g))
attribute [local go_sem ↓] execOp_bslice execOp_build execOp_make
attribute [local go_sem] bslice148 build258 make184
set_option maxRecDepth 100000 in
theorem frame114p (f : Nat → Value) : frameN 114 f = #[f 0, f 1, f 2, f 3, f 4, f 5, f 6, f 7, f 8, f 9, f 10, f 11, f 12, f 13, f 14, f 15, f 16, f 17, f 18, f 19, f 20, f 21, f 22, f 23, f 24, f 25, f 26, f 27, f 28, f 29, f 30, f 31, f 32, f 33, f 34, f 35, f 36, f 37, f 38, f 39, f 40, f 41, f 42, f 43, f 44, f 45, f 46, f 47, f 48, f 49, f 50, f 51, f 52, f 53, f 54, f 55, f 56, f 57, f 58, f 59, f 60, f 61, f 62, f 63, f 64, f 65, f 66, f 67, f 68, f 69, f 70, f 71, f 72, f 73, f 74, f 75, f 76, f 77, f 78, f 79, f 80, f 81, f 82, f 83, f 84, f 85, f 86, f 87, f 88, f 89, f 90, f 91, f 92, f 93, f 94, f 95, f 96, f 97, f 98, f 99, f 100, f 101, f 102, f 103, f 104, f 105, f 106, f 107, f 108, f 109, f 110, f 111, f 112, f 113] := by kernel_rfl
set_option maxRecDepth 40000 in
set_option maxHeartbeats 4000000 in
theorem perfect_any (W : World) (bp : Nat) (p : PP) (hp : ProgC W bp p) (hok : PPok p) (a : Option Addr) (c : Nat) (B : List (List Tup)) (hB : RelR W a p.preds.length B) (hI : RInv p B) : Calls Tryz.prog 171 #[.pointer (some ⟨bp, 0, none⟩), .slice a p.preds.length c] W (PerfPost W p B) := by
  obtain ⟨Q, hQ⟩ : ∃ Q, Q = PerfPost W p B := ⟨_, rfl⟩
  rw [← hQ]
  have HQ := hid_of hQ
  have HP := hid_of hp
  have HK := hid_of hok
  have HB := hid_of hB
  have HI := hid_of hI
  have h64 := hok.nD
  have h128 := hok.nR
  have hst := hok.st
  obtain ⟨n, hn⟩ : ∃ n, n = p.preds.length := ⟨_, rfl⟩
  rw [← hn] at h64 HB ⊢
  have HN := hid_of hn
  have hn100 : n ≤ 100 := by omega
  clear hQ hp hok hB hI hn
  go_enter Tryz.func171, Tryz.ntmps171
  go_upto_region 3 with fail
  refine wp_world (fun V => W.Extends V ∧ blk V W.heap.size = some (List.replicate n (Value.slice none 0 0)) ∧ free V W.heap.size = true) ⟨extends_alloc (ext_Ext (Ext.refl _)) _, ?_, ?_⟩ ?_
  · rw [blk_alloc, if_pos rfl]; simp
  · unfold free
    rw [heap_alloc, if_pos rfl]; rfl
  rintro V1 ⟨hx1, hb1, hf1⟩
  obtain ⟨bo, ebo⟩ : ∃ bo, bo = W.heap.size := ⟨_, rfl⟩
  rw [← ebo] at hb1 hf1 ⊢
  have hbo : W.heap.size ≤ bo := by omega
  have HI0 : Hid (∃ O, RelO W bo (cpR B 0) O V1 ∧ ∀ q, 0 ≤ q → q < n → ∃ C, blk V1 bo = some C ∧ nth C q = some (.slice none 0 0)) := by
    rw [cpR_zero, ← HB.out.len]
    exact ⟨_, relO_new W n V1 hx1 bo hb1 hf1 (by omega), fun q _ hq => ⟨_, hb1, by unfold nth; rw [List.getElem?_replicate, if_pos hq]⟩⟩
  clear hx1 hb1 hf1 ebo
  refine wp_loop_f 114 (p1I W bp a n c bo B) (fun f _ => n - (intOf (f 6)).toNat) rfl ⟨rfl, rfl, rfl, 0, by omega, rfl, HI0⟩ ?_
  clear HI0
  intro F V hrel
  obtain ⟨f0, f1, f5, i, hi, f6, HI1⟩ := hrel
  have H6 := hid_of f6
  rw [frame114p, f0, f1, f5, f6]
  clear f0 f1 f5 f6
  by_cases hin : i < n
  · have hin' : (i : Int) < (n : Int) := by omega
    obtain ⟨O, hO, hnil⟩ := HI1.out
    obtain ⟨L, hL⟩ : ∃ L, B[i]? = some L := ⟨_, List.getElem?_eq_getElem (by rw [← HB.out.len]; exact hin)⟩
    have hLo := (HI.out.1 L (List.mem_of_getElem? hL)).len
    obtain ⟨br, Cr, ra, rc, e1, g2, g3, g4, g5⟩ := HB.out.at hL
    subst e1
    have nr : ¬ br = bo := fun e => by have := blk_lt g2; omega
    have hbr : blk V br = some Cr := (hO.ext.blk (blk_lt g2)).trans g2
    obtain ⟨C, hC, hCi⟩ := hnil i (Nat.le_refl _) hin
    have g5d := g5.ext' (extends_drew hO.ext)
    obtain ⟨a', c', V2, hrun, hout⟩ := copyL g5d (by omega) rc
    obtain ⟨C', O', k1, k2, k3, k4, k5⟩ := hO.drew.set (q := i) (by rw [cpR_len _ (by have := HB.out.len; omega), ← HB.out.len]; exact hin) hout
    obtain rfl : C = C' := by
      have : blk V2 bo = some C := (hout.2.1.blk (blk_lt (w := V.drew) hC)).trans hC
      exact Option.some.inj (this.symm.trans k1)
    rw [cpR_set hL] at k5
    have hCl : C.length = n := by rw [k2, cpR_len _ (by have := HB.out.len; omega), ← HB.out.len]
    have q2 : i < C.length := by omega
    have q2' : i + 1 ≤ C.length := by omega
    have hbr2 : blk V2 br = some Cr := (hout.2.1.blk (blk_lt (w := V.drew) hbr)).trans hbr
    have hfin : ∀ X, blk (put V2 bo X) br = some Cr := fun X => by rw [blk_put, if_neg nr]; exact hbr2
    have HI' : Hid (∃ O, RelO W bo (cpR B (i + 1)) O (put V2 bo (splice C i [.slice a' L.length c'])) ∧ ∀ q, i + 1 ≤ q → q < n → ∃ C9, blk (put V2 bo (splice C i [.slice a' L.length c'])) bo = some C9 ∧ nth C9 q = some (.slice none 0 0)) := by
      refine ⟨O', k5, fun q h1 h2 => ⟨_, by rw [blk_put, if_pos rfl, k1]; rfl, ?_⟩⟩
      rw [splice_nth q2, if_neg (by omega)]
      obtain ⟨C9, h9, h8⟩ := hnil q (by omega) h2
      rw [hC] at h9
      rw [Option.some.inj h9]; exact h8
    have i0 : (0 : Int) ≤ (i : Int) := by omega
    have i2 : ((i : Int)).toNat = i := by omega
    obtain ⟨ln, hln⟩ : ∃ ln, ln = L.length := ⟨_, rfl⟩
    rw [← hln] at g4 HI' hLo hrun
    clear hCl HI1 hO hnil g5 g5d hL hout k2 k4 k5 nr g2 hln
    go_upto_region 5 with fail
    refine wp_region_held_drew (S := fun W' => blk W' br = some Cr) (by kernel_rfl) hbr (fun hHeld => ?_)
    refine wpAnyH_take (i := 0) (oi := ⟨_, _, _, _, _, _⟩) (v := ?_) rfl (by kernel_rfl) (by kernel_rfl) (by kernel_rfl) (fun _ _ _ h => h) (Or.inl ⟨by rfl, ?_⟩) (by assumption) ?_
    rotate_left 1
    · intro W' hSw
      go_simp
      try with_reducible rfl
    try simp only [Act.put, List.setIfInBounds_toArray, List.set_cons_zero, List.set_cons_succ]
    refine wpAnyH_take (i := 1) (oi := ⟨_, _, _, _, _, _⟩) (v := ?_) rfl (by kernel_rfl) (by kernel_rfl) (by kernel_rfl) (fun _ _ _ h => h) (Or.inl ⟨by rfl, ?_⟩) (by assumption) ?_
    rotate_left 1
    · intro W' hSw
      go_simp
      try with_reducible rfl
    try simp only [Act.put, List.setIfInBounds_toArray, List.set_cons_zero, List.set_cons_succ]
    refine wpAnyH_take (i := 2) (oi := ⟨_, _, _, _, _, _⟩) (v := ?_) rfl (by kernel_rfl) (by kernel_rfl) (by kernel_rfl) (fun _ _ _ h => h) (Or.inl ⟨by rfl, ?_⟩) (by assumption) ?_
    rotate_left 1
    · intro W' hSw
      go_simp
      try with_reducible rfl
    try simp only [Act.put, List.setIfInBounds_toArray, List.set_cons_zero, List.set_cons_succ]
    refine wpAnyH_take (i := 3) (oi := ⟨_, _, _, _, _, _⟩) (v := ?_) rfl (by kernel_rfl) (by kernel_rfl) (by kernel_rfl) (fun _ _ _ h => h) (Or.inl ⟨by rfl, ?_⟩) (by assumption) ?_
    rotate_left 1
    · intro W' hSw
      go_simp
      try with_reducible rfl
    try simp only [Act.put, List.setIfInBounds_toArray, List.set_cons_zero, List.set_cons_succ]
    refine wpAnyH_take (i := 4) (oi := ⟨_, _, _, _, _, _⟩) (v := ?_) rfl (by kernel_rfl) (by kernel_rfl) (by kernel_rfl) (fun _ _ _ h => h) (Or.inl ⟨by rfl, ?_⟩) (by assumption) ?_
    rotate_left 1
    · intro W' hSw
      go_simp
      try with_reducible rfl
    try simp only [Act.put, List.setIfInBounds_toArray, List.set_cons_zero, List.set_cons_succ]
    refine wpAnyH_take (i := 6) (oi := ⟨_, _, _, _, _, _⟩) (v := ?_) rfl (by kernel_rfl) (by kernel_rfl) (by kernel_rfl) (fun _ _ _ h => h) (Or.inl ⟨by rfl, ?_⟩) (by assumption) ?_
    rotate_left 1
    · intro W' hSw
      go_simp
      try with_reducible rfl
    try simp only [Act.put, List.setIfInBounds_toArray, List.set_cons_zero, List.set_cons_succ]
    refine wpAnyH_take (i := 7) (oi := ⟨_, _, _, _, _, _⟩) (v := ?_) rfl (by kernel_rfl) (by kernel_rfl) (by kernel_rfl) (fun _ _ _ h => h) (Or.inl ⟨by rfl, ?_⟩) (by assumption) ?_
    rotate_left 1
    · intro W' hSw
      go_simp
      try with_reducible rfl
    try simp only [Act.put, List.setIfInBounds_toArray, List.set_cons_zero, List.set_cons_succ]
    refine wpAnyH_take (i := 8) (oi := ⟨_, _, _, _, _, _⟩) (v := ?_) rfl (by kernel_rfl) (by kernel_rfl) (by kernel_rfl) (fun _ _ _ h => h) (Or.inl ⟨by rfl, ?_⟩) (by assumption) ?_
    rotate_left 1
    · intro W' hSw
      go_simp
      try with_reducible rfl
    try simp only [Act.put, List.setIfInBounds_toArray, List.set_cons_zero, List.set_cons_succ]
    refine wpAnyH_take (i := 9) (oi := ⟨_, _, _, _, _, _⟩) (v := ?_) rfl (by kernel_rfl) (by kernel_rfl) (by kernel_rfl) (fun _ _ _ h => h) (Or.inl ⟨by rfl, ?_⟩) (by assumption) ?_
    rotate_left 1
    · intro W' hSw
      go_simp
      try with_reducible rfl
    try simp only [Act.put, List.setIfInBounds_toArray, List.set_cons_zero, List.set_cons_succ]
    refine wpAnyH_ready (rs := [5]) (by kernel_rfl) (by simp) ?_
    refine AllReadyH.cons (o := ⟨_, _, _, _, _, _⟩) rfl (fun K' hK => ?_) AllReadyH.nil
    go_simp
    refine hK.out _ _ hbr (fun hHeld => ?_)
    clear hK K'
    try simp only [Act.put, List.setIfInBounds_toArray, List.set_cons_zero, List.set_cons_succ]
    refine wpAnyH_ready (rs := [10]) (by kernel_rfl) (by simp) ?_
    refine AllReadyH.cons (o := ⟨_, _, _, _, _, _⟩) rfl (fun K' hK => ?_) AllReadyH.nil
    refine wp_append_run _ _ 257 rfl _ _ _ _ rfl rfl hrun ?_
    refine hK.out _ _ hbr2 (fun hHeld => ?_)
    clear hK K'
    try simp only [Act.put, List.setIfInBounds_toArray, List.set_cons_zero, List.set_cons_succ]
    refine wpAnyH_take (i := 11) (oi := ⟨_, _, _, _, _, _⟩) (v := ?_) rfl (by kernel_rfl) (by kernel_rfl) (by kernel_rfl) (fun _ _ _ h => h) (Or.inl ⟨by rfl, ?_⟩) (by assumption) ?_
    rotate_left 1
    · intro W' hSw
      go_simp
      try with_reducible rfl
    try simp only [Act.put, List.setIfInBounds_toArray, List.set_cons_zero, List.set_cons_succ]
    refine wpAnyH_ready (rs := [12]) (by kernel_rfl) (by simp) ?_
    refine AllReadyH.cons (o := ⟨_, _, _, _, _, _⟩) rfl (fun K' hK => ?_) AllReadyH.nil
    go_simp
    refine hK.out _ _ (hfin _) (fun hHeld => ?_)
    clear hK K'
    try simp only [Act.put, List.setIfInBounds_toArray, List.set_cons_zero, List.set_cons_succ]
    refine wpAnyH_done (by kernel_rfl) ?_ _
    go_wp2_with fail
    refine ⟨rfl, rfl, ⟨rfl, rfl, rfl, i + 1, by omega, ?_, HI'⟩, ?_⟩
    · show Value.int .i64 _ = _
      go_num
    · show n - (intOf (Value.int .i64 _)).toNat < n - (intOf (F 6)).toNat
      rw [H6.out]
      simp [intOf]; omega
  have hin' : ¬ (i : Int) < (n : Int) := by omega
  have HI2 : Hid (∃ O R, RelO W bo R O V ∧ RInv p R ∧ ∀ R2, PerfTo p 0 R R2 → PerfTo p 0 B R2) := by
    obtain ⟨O, hO, _⟩ := HI1.out
    obtain rfl : i = B.length := by have := HB.out.len; omega
    rw [cpR_all] at hO
    exact ⟨O, B, hO, HI.out, fun _ h => h⟩
  clear HI1 hi H6 hin
  go_upto_region 7 with fail
  refine wp_loop_f 114 (p2I W p bp n bo B) (fun f _ => p.strata.toNat - (intOf (f 7)).toNat) rfl ⟨rfl, rfl, 0, by omega, rfl, HI2⟩ ?_
  clear HI2 hin'
  intro F V hrel
  obtain ⟨f0, f5, s, hs, f7, HI2⟩ := hrel
  have H7 := hid_of f7
  rw [frame114p, f0, f5, f7]
  clear f0 f5 f7
  obtain ⟨O, R, hO, hRI, hPT⟩ := HI2.out
  obtain ⟨Ce, pa, pc, da, dc, ra, rc, e1, e2, -, -, -, e6, -⟩ := (HP.out.ext hO.ext).cells
  have z3 : 3 < Ce.length := by omega
  by_cases hin : (s : Int) < p.strata
  rotate_left 1
  · have HE : Hid (Q (.returned (.slice (some ⟨bo, 0, none⟩) n n)) V) := by
      show Q _ _
      rw [HQ.out]
      refine ⟨bo, n, R, by rw [HN.out], hO.ext, ?_, hRI, hPT R (PerfTo.fin s R hin)⟩
      have := hO.relN
      rw [hRI.2] at this; exact this
    clear HI2 hO hRI hPT
    go_wp2_with fail
    try go_ret
    exact HE.out
  have HI3 : Hid (∃ O R, RelO W bo R O V ∧ RInv p R ∧ (1 + (32768 - totR R) = if true then 1 + (32768 - totR R) else 0) ∧ ∀ R2, PerfTo p (if true then s else s + 1) R R2 → PerfTo p 0 B R2) := ⟨O, R, hO, hRI, rfl, hPT⟩
  obtain ⟨m0, hm0⟩ : ∃ m0, m0 = 1 + (32768 - totR R) := ⟨_, rfl⟩
  have HI4 : Hid (∃ O R, RelO W bo R O V ∧ RInv p R ∧ (m0 = if true then 1 + (32768 - totR R) else 0) ∧ ∀ R2, PerfTo p (if true then s else s + 1) R R2 → PerfTo p 0 B R2) := ⟨O, R, hO, hRI, hm0, hPT⟩
  clear HI2 HI3 hO hRI hPT hm0
  go_upto_region 10 with fail
  refine wp_loop_ix 114 (p3I W p bp n bo s B) m0 rfl ⟨rfl, rfl, rfl, true, rfl, HI4⟩ ?_
  clear HI4 e1 e2 e6 z3 R O Ce
  clear pa pc da dc ra rc
  intro m F3 V hrel μ HMU
  obtain ⟨f0, f5, f7, g, f8, HI3⟩ := hrel
  rw [frame114p, f0, f5, f7, f8]
  clear f0 f5 f7 f8
  cases g with
  | false =>
    have HI2 : Hid (∃ O R, RelO W bo R O V ∧ RInv p R ∧ ∀ R2, PerfTo p (s + 1) R R2 → PerfTo p 0 B R2) := by
      obtain ⟨O, R, h1, h2, _, h3⟩ := HI3.out
      exact ⟨O, R, h1, h2, h3⟩
    clear HI3 HMU
    go_wp2_with fail
    refine ⟨rfl, rfl, ⟨rfl, rfl, s + 1, by omega, ?_, HI2⟩, ?_⟩
    · show Value.int .i64 _ = _
      go_num
    · show p.strata.toNat - (intOf (Value.int .i64 _)).toNat < p.strata.toNat - (intOf (F 7)).toNat
      rw [H7.out]
      simp [intOf]; omega
  | true =>
    obtain ⟨O0, R0, hO0, hRI0, hm, hPT0⟩ := HI3.out
    have HPT := hid_of hPT0
    have HM := hid_of hm
    have HI4 : Hid (∃ O R, RelO W bo R O V ∧ RInv p R ∧ rnd p s (p.rules.drop 0) (R, false) = rnd p s p.rules (R0, false) ∧ GRel false R R0) := ⟨O0, R0, hO0, hRI0, rfl, fun h => (by cases h), fun _ => rfl⟩
    clear HI3 hO0 hRI0 hm hPT0 O0
    go_upto_region 13 with fail
    refine wp_loop_f 114 (p4I W p bp n bo s R0) (fun f _ => p.rules.length - (intOf (f 9)).toNat) rfl ⟨rfl, rfl, rfl, 0, false, by omega, rfl, rfl, HI4⟩ ?_
    clear HI4
    intro F4 V hrel
    obtain ⟨f0, f5, f7, k, g, hk, f8, f9, HI4⟩ := hrel
    have H9 := hid_of f9
    rw [frame114p, f0, f5, f7, f8, f9]
    clear f0 f5 f7 f8 f9
    obtain ⟨O, R, hO, hRI, hrd, hg1, hg0⟩ := HI4.out
    obtain ⟨Ce, pa, pc, da, dc, ra, rc, e1, e2, e3, e4, e5, e6, e7, e8, e9⟩ := (HP.out.ext hO.ext).cells
    have z1 : 1 < Ce.length := by omega
    have z2 : 2 < Ce.length := by omega
    by_cases hkn : k < p.rules.length
    rotate_left 1
    · have hkn' : ¬ (k : Int) < (p.rules.length : Int) := by omega
      have hrd' : rnd p s p.rules (R0, false) = (R, g, false) := by
        rw [← hrd, List.drop_of_length_le (by omega)]; rfl
      have HI3 : Hid (∃ O R', RelO W bo R' O V ∧ RInv p R' ∧ ((if g then 1 + (32768 - totR R) else 0) = if g then 1 + (32768 - totR R') else 0) ∧ ∀ R2, PerfTo p (if g then s else s + 1) R' R2 → PerfTo p 0 B R2) := by
        refine ⟨O, R, hO, hRI, rfl, fun R2 h => ?_⟩
        cases g with
        | true => exact HPT.out R2 (PerfTo.again s R0 R R2 hin hrd' h)
        | false => exact HPT.out R2 (PerfTo.next s R0 R R2 hin hrd' h)
      have HLT : Hid ((if g then 1 + (32768 - totR R) else 0) < m) := by
        show _ < m
        rw [HM.out]
        cases g with
        | true =>
          obtain ⟨h1, h2⟩ := hg1 rfl
          have h3 := totR_le h2
          have h4 := hRI.2
          rw [← HN.out] at h4
          have h5 : R.length * 512 ≤ 64 * 512 := Nat.mul_le_mul_right _ (by omega)
          simp only [if_true]
          omega
        | false => simp only [if_true, if_false, Bool.false_eq_true]; omega
      obtain ⟨m1, hm1⟩ : ∃ m1, m1 = (if g then 1 + (32768 - totR R) else 0) := ⟨_, rfl⟩
      rw [← hm1] at HI3 HLT
      clear hO hRI hrd hrd' hg1 hg0 HI4 hm1 e7 e8 e9
      go_wp2_with fail
      exact ⟨rfl, rfl, ⟨m1, ⟨rfl, rfl, rfl, g, rfl, HI3⟩⟩, HMU.out m1 _ _ ⟨rfl, rfl, rfl, g, rfl, HI3⟩ HLT.out⟩
    have hkn' : (k : Int) < (p.rules.length : Int) := by omega
    have k0 : (0 : Int) ≤ (k : Int) := by omega
    have k2 : ((k : Int)).toNat = k := by omega
    obtain ⟨r, hr⟩ : ∃ r, p.rules[k]? = some r := ⟨_, List.getElem?_eq_getElem hkn⟩
    obtain ⟨bR, CR, x, u1, u2, u3, u4, u5, u6⟩ := e9 k r hr
    subst u1
    have hrm := List.mem_of_getElem? hr
    obtain ⟨hfit, hhd⟩ := HK.out.rl r hrm
    obtain ⟨h, hh⟩ : ∃ h, h = r.head.pred := ⟨_, rfl⟩
    rw [← hh] at u5 hhd
    have HH := hid_of hh
    obtain ⟨bD, CD, d1, d2, d3, -, -, d6, d7⟩ := pred_at e8 (pI_at hhd)
    subst d1
    rw [← HN.out] at hhd d7 e4
    have h0 : (0 : Int) ≤ (h : Int) := by omega
    have h1 : (h : Int) < (n : Int) := by omega
    have h2 : ((h : Int)).toNat = h := by omega
    have d8 : h * 3 + 2 < CD.length := by omega
    have u7 : k * 3 < CR.length := by omega
    have u8 : k * 3 + 3 ≤ CR.length := by omega
    have hdr : p.rules.drop k = r :: p.rules.drop (k + 1) := dropA_at hr
    obtain ⟨sv, hsv⟩ : ∃ sv, sv = (pI p h).stratum := ⟨_, rfl⟩
    rw [← hsv] at d6
    have hun : rnd p s (r :: p.rules.drop (k + 1)) (R, g) = if sv ≠ (s : Int) then rnd p s (p.rules.drop (k + 1)) (R, g) else if overB ((fnd R r).foldl (stepT h) (R, g)).1 then (((fnd R r).foldl (stepT h) (R, g)).1, ((fnd R r).foldl (stepT h) (R, g)).2, true) else rnd p s (p.rules.drop (k + 1)) ((fnd R r).foldl (stepT h) (R, g)) := by
      rw [hsv, hh]; rfl
    rw [hdr, hun] at hrd
    clear hdr hun hsv hh
    by_cases hsn : sv = (s : Int)
    rotate_left 1
    · rw [if_pos hsn] at hrd
      have hnb : (sv != (s : Int)) = true := by simp [hsn]
      have HI4' : Hid (∃ O R, RelO W bo R O V ∧ RInv p R ∧ rnd p s (p.rules.drop (k + 1)) (R, g) = rnd p s p.rules (R0, false) ∧ GRel g R R0) := ⟨O, R, hO, hRI, hrd, hg1, hg0⟩
      clear HI4 hO hRI hrd hg1 hg0 e7 e8 e9 u6 hfit hr hrm HH
      go_wp2_with fail
      refine ⟨rfl, rfl, ⟨rfl, rfl, rfl, k + 1, g, by omega, rfl, ?_, HI4'⟩, ?_⟩
      · show Value.int .i64 _ = _
        go_num
      · show p.rules.length - (intOf (Value.int .i64 _)).toNat < p.rules.length - (intOf (F4 9)).toNat
        rw [H9.out]
        simp [intOf]; omega
    rw [if_neg (fun e => e hsn)] at hrd
    have hnb : (sv != (s : Int)) = false := by simp [hsn]
    have hrl : RelR V (some ⟨bo, 0, none⟩) n R := by have := hO.relR; rw [hRI.2, ← HN.out] at this; exact this
    have hma := match_any V x r u6 (some ⟨bo, 0, none⟩) n n R hrl hRI.1 (by rw [hRI.2]; exact hfit) r.body.length 0 (by omega) V Env.zero none 0 0 [] (Outs.nil V V (ext_Ext (Ext.refl _))) eok_zero outOk_nil
    have hgo : goM R r.body r.head (r.body.drop 0) Env.zero [] = fnd R r := rfl
    rw [hgo] at hma
    have hfo := fnd_ok HK.out hRI hrm
    obtain ⟨ts, hts⟩ : ∃ ts, ts = fnd R r := ⟨_, rfl⟩
    rw [← hts] at hma hfo hrd
    have HMA := hid_of hma
    have HFO := hid_of hfo
    have HRD := hid_of hrd
    have HG1 := hid_of hg1
    have HG0 := hid_of hg0
    have HRI := hid_of hRI
    have HO := hid_of hO
    have hma0 : ((0 : Nat) : Int) = 0 := rfl
    rw [hma0] at hma
    clear HMA
    clear hma0 hrl hgo hts hfo hrd hg1 hg0 hRI hO HI4 e7 e8 e9 u6 hfit hr hrm
    go_wp2_with fail
    refine hma.mono ?_
    rintro en V2 ⟨fa, fn, fc, rfl, hout, -⟩
    have hx2 := hout.2.1
    have hfn : fn = ts.length := hout.2.2
    have HI5 : Hid (∃ O R', RelO W bo R' O V2 ∧ RInv p R' ∧ Rw tpl 4 (core O V2) fa fn ts ∧ (ts.take 0).foldl (stepT h) (R, g) = (R', g)) := ⟨_, R, HO.out.grow hx2, HRI.out, outs_core hout, rfl⟩
    have hfl : fn ≤ 4294967296 := by rw [hfn]; exact HFO.out.len
    have HFN := hid_of hfn
    clear hma hout hx2 hfn HO
    clear e1 e2 e3 e4 e5 e6 z1 z2 u2 u3 u4 u5 u7 u8 d2 d3 d6 d8
    dsimp only
    go_upto_region 19 with fail
    refine wp_loop_f 114 (p5I W p bp n bo s k h (R, g) fa fn fc ts) (fun f _ => fn - (intOf (f 12)).toNat) rfl ⟨rfl, rfl, rfl, rfl, rfl, rfl, 0, g, by omega, rfl, rfl, HI5⟩ ?_
    clear HI5
    intro F5 V hrel
    obtain ⟨f0, f5, f7, f9, f10, f11, j, g', hj, f8, f12, HI5⟩ := hrel
    have H12 := hid_of f12
    rw [frame114p, f0, f5, f7, f8, f9, f10, f11, f12]
    clear f0 f5 f7 f8 f9 f10 f11 f12
    obtain ⟨O5, R5, hO5, hRI5, hrow, hfold⟩ := HI5.out
    by_cases hjn : j < fn
    rotate_left 1
    · have hjn' : ¬ (j : Int) < (fn : Int) := by omega
      rw [List.take_of_length_le (by rw [← HFN.out]; omega)] at hfold
      have hrl : RelR V (some ⟨bo, 0, none⟩) n R5 := by have := hO5.relR; rw [hRI5.2, ← HN.out] at this; exact this
      have hov := over_any hrl (fun L hL => by have := (hRI5.1 L hL).len; omega) (by omega) n
      have hrd := HRD.out
      rw [hfold] at hrd
      dsimp only at hrd
      obtain ⟨ob, hob⟩ : ∃ ob, ob = overB R5 := ⟨_, rfl⟩
      rw [← hob] at hov hrd
      have HO5 := hid_of hO5
      have HRI5 := hid_of hRI5
      have HRD5 := hid_of hrd
      have HFO5 := hid_of hfold
      have HOB := hid_of hob
      clear HI5 hO5 hRI5 hrow hfold hrd hob hrl HRD
      go_wp2_with fail
      refine hov.mono ?_
      rintro en V6 ⟨rfl, e9⟩
      replace e9 := e9.symm
      subst e9
      clear hov
      dsimp only
      cases ob with
      | true =>
        have HE : Hid (Q (.returned (.slice (some ⟨bo, 0, none⟩) n n)) V) := by
          show Q _ _
          rw [HQ.out]
          refine ⟨bo, n, R5, by rw [HN.out], HO5.out.ext, ?_, HRI5.out, HPT.out R5 (PerfTo.stop s R0 R5 g' hin ?_)⟩
          · have := HO5.out.relN
            rw [HRI5.out.2] at this; exact this
          · rw [← HRD5.out]; rfl
        clear HO5 HRI5 HRD5 HFO5 HOB
        go_wp2_with fail
        try go_ret
        exact HE.out
      | false =>
        have hst := step_tot (h := h) ts (R, g) (by show h < R.length; rw [HRI.out.2, ← HN.out]; exact hhd)
        rw [HFO5.out] at hst
        have HI4' : Hid (∃ O R, RelO W bo R O V ∧ RInv p R ∧ rnd p s (p.rules.drop (k + 1)) (R, g') = rnd p s p.rules (R0, false) ∧ GRel g' R R0) := by
          refine ⟨O5, R5, HO5.out, HRI5.out, HRD5.out, fun hg => ⟨?_, HOB.out.symm⟩, fun hg => ?_⟩
          · cases hgg : g with
            | true =>
              have h9 := (HG1.out hgg).1
              have h8 := hst.2.1
              dsimp only at h8
              omega
            | false =>
              rw [← HG0.out hgg]
              exact hst.2.2 hgg hg
          · have h9 := step_false (h := h) ts (R, g) (by rw [HFO5.out]; exact hg)
            rw [HFO5.out] at h9
            have h8 := Prod.mk.inj h9
            rw [h8.1]
            exact HG0.out (by rw [← h8.2]; exact hg)
        clear HO5 HRI5 HRD5 HFO5 HOB hst
        go_wp2_with fail
        refine ⟨rfl, rfl, ⟨rfl, rfl, rfl, k + 1, g', by omega, rfl, ?_, HI4'⟩, ?_⟩
        · show Value.int .i64 _ = _
          go_num
        · show p.rules.length - (intOf (Value.int .i64 _)).toNat < p.rules.length - (intOf (F4 9)).toNat
          rw [H9.out]
          simp [intOf]; omega
    have hjn' : (j : Int) < (fn : Int) := by omega
    have j0 : (0 : Int) ≤ (j : Int) := by omega
    have j2 : ((j : Int)).toNat = j := by omega
    obtain ⟨t, ht⟩ : ∃ t, ts[j]? = some t := ⟨_, List.getElem?_eq_getElem (by rw [← HFN.out]; exact hjn)⟩
    obtain ⟨bt, Ct, v1, v2, v3, v4, v5⟩ := tup_at hrow ht
    subst v1
    obtain ⟨v2a, v2b⟩ := core_blk v2
    have hto : TOk t := HFO.out.2 t (List.mem_of_getElem? ht)
    obtain ⟨Lh, hLh⟩ : ∃ Lh, R5[h]? = some Lh := ⟨_, List.getElem?_eq_getElem (by rw [hRI5.2, ← HN.out]; exact hhd)⟩
    have hrL : rowsAt R5 h = Lh := rowsAt_some hLh
    have hLo := (hRI5.1 Lh (List.mem_of_getElem? hLh)).len
    have hnx : (ts.take (j + 1)).foldl (stepT h) (R, g) = if t ∈ Lh then (R5, g') else (addR R5 h t, true) := by
      rw [take_at ht, List.foldl_append, hfold, ← hrL]; rfl
    obtain ⟨C, w1, w2, w3⟩ := hO5.rows
    obtain ⟨la, lc, w4, w5⟩ := w3 h Lh hLh
    have w6 : h < C.length := by rw [w2, hRI5.2, ← HN.out]; exact hhd
    have hme := fun V' (hx : V.Extends V') => member_any V' la Lh.length lc Lh ((w5.rw tpl_len).1.ext' hx) (by omega) t
    obtain ⟨mb, hmb⟩ : ∃ mb, mb = decide (t ∈ Lh) := ⟨_, rfl⟩
    rw [← hmb] at hme
    have HMB := hid_of hmb
    clear hmb
    have HO5 := hid_of hO5
    have HRI5 := hid_of hRI5
    have HROW := hid_of hrow
    have HNX := hid_of hnx
    have HLH := hid_of hLh
    have HRL := hid_of hrL
    have HSX : Hid (∀ V', V.Extends V' → blk V' bo = some C ∧ blk V' bt = some Ct) := fun V' hx => ⟨(hx.blk (blk_lt w1)).trans w1, (hx.blk (blk_lt v2a)).trans v2a⟩
    obtain ⟨ll, hll⟩ : ∃ ll, ll = Lh.length := ⟨_, rfl⟩
    rw [← hll] at w4 hme hLo
    have HLL := hid_of hll
    have v6 : j * 4 < Ct.length := by omega
    clear HI5 hO5 hRI5 hrow hnx hLh hrL w3 w5 hfold ht v2 w2 hll
    go_upto_region 21 with fail
    refine wp_region_held_drew (S := fun W' => blk W' bo = some C ∧ blk W' bt = some Ct) (by kernel_rfl) (HSX.out _ (extd V)) (fun hHeld => ?_)
    refine wpAnyH_take (i := 0) (oi := ⟨_, _, _, _, _, _⟩) (v := ?_) rfl (by kernel_rfl) (by kernel_rfl) (by kernel_rfl) (fun _ _ _ h => h) (Or.inl ⟨by rfl, ?_⟩) (by assumption) ?_
    rotate_left 1
    · intro W' hSw
      obtain ⟨hS1, hS2⟩ := hSw
      go_simp
      try with_reducible rfl
    try simp only [Act.put, List.setIfInBounds_toArray, List.set_cons_zero, List.set_cons_succ]
    refine wpAnyH_take (i := 1) (oi := ⟨_, _, _, _, _, _⟩) (v := ?_) rfl (by kernel_rfl) (by kernel_rfl) (by kernel_rfl) (fun _ _ _ h => h) (Or.inl ⟨by rfl, ?_⟩) (by assumption) ?_
    rotate_left 1
    · intro W' hSw
      obtain ⟨hS1, hS2⟩ := hSw
      go_simp
      try with_reducible rfl
    try simp only [Act.put, List.setIfInBounds_toArray, List.set_cons_zero, List.set_cons_succ]
    refine wpAnyH_take (i := 2) (oi := ⟨_, _, _, _, _, _⟩) (v := ?_) rfl (by kernel_rfl) (by kernel_rfl) (by kernel_rfl) (fun _ _ _ h => h) (Or.inl ⟨by rfl, ?_⟩) (by assumption) ?_
    rotate_left 1
    · intro W' hSw
      obtain ⟨hS1, hS2⟩ := hSw
      go_simp
      try with_reducible rfl
    try simp only [Act.put, List.setIfInBounds_toArray, List.set_cons_zero, List.set_cons_succ]
    refine wpAnyH_take (i := 3) (oi := ⟨_, _, _, _, _, _⟩) (v := ?_) rfl (by kernel_rfl) (by kernel_rfl) (by kernel_rfl) (fun _ _ _ h => h) (Or.inl ⟨by rfl, ?_⟩) (by assumption) ?_
    rotate_left 1
    · intro W' hSw
      obtain ⟨hS1, hS2⟩ := hSw
      go_simp
      try with_reducible rfl
    try simp only [Act.put, List.setIfInBounds_toArray, List.set_cons_zero, List.set_cons_succ]
    refine wpAnyH_take (i := 4) (oi := ⟨_, _, _, _, _, _⟩) (v := ?_) rfl (by kernel_rfl) (by kernel_rfl) (by kernel_rfl) (fun _ _ _ h => h) (Or.inl ⟨by rfl, ?_⟩) (by assumption) ?_
    rotate_left 1
    · intro W' hSw
      obtain ⟨hS1, hS2⟩ := hSw
      go_simp
      try with_reducible rfl
    try simp only [Act.put, List.setIfInBounds_toArray, List.set_cons_zero, List.set_cons_succ]
    refine wpAnyH_take (i := 5) (oi := ⟨_, _, _, _, _, _⟩) (v := ?_) rfl (by kernel_rfl) (by kernel_rfl) (by kernel_rfl) (fun _ _ _ h => h) (Or.inl ⟨by rfl, ?_⟩) (by assumption) ?_
    rotate_left 1
    · intro W' hSw
      obtain ⟨hS1, hS2⟩ := hSw
      go_simp
      try with_reducible rfl
    try simp only [Act.put, List.setIfInBounds_toArray, List.set_cons_zero, List.set_cons_succ]
    refine wpAnyH_take (i := 6) (oi := ⟨_, _, _, _, _, _⟩) (v := ?_) rfl (by kernel_rfl) (by kernel_rfl) (by kernel_rfl) (fun _ _ _ h => h) (Or.inl ⟨by rfl, ?_⟩) (by assumption) ?_
    rotate_left 1
    · intro W' hSw
      obtain ⟨hS1, hS2⟩ := hSw
      go_simp
      try with_reducible rfl
    try simp only [Act.put, List.setIfInBounds_toArray, List.set_cons_zero, List.set_cons_succ]
    refine wpAnyH_take (i := 7) (oi := ⟨_, _, _, _, _, _⟩) (v := ?_) rfl (by kernel_rfl) (by kernel_rfl) (by kernel_rfl) (fun _ _ _ h => h) (Or.inl ⟨by rfl, ?_⟩) (by assumption) ?_
    rotate_left 1
    · intro W' hSw
      obtain ⟨hS1, hS2⟩ := hSw
      go_simp
      try with_reducible rfl
    try simp only [Act.put, List.setIfInBounds_toArray, List.set_cons_zero, List.set_cons_succ]
    refine wpAnyH_ready (rs := [8]) (by kernel_rfl) (by simp) ?_
    refine AllReadyH.cons (o := ⟨_, _, _, _, _, _⟩) rfl (fun K' hK => ?_) AllReadyH.nil
    go_simp
    refine (hme _ (extd V)).mono ?_
    rintro en V6 ⟨rfl, hx6⟩
    have hx6' : V.Extends V6 := (extd V).trans hx6
    dsimp only
    refine hK.out _ _ (HSX.out _ hx6') (fun hHeld => ?_)
    clear hK K'
    try simp only [Act.put, List.setIfInBounds_toArray, List.set_cons_zero, List.set_cons_succ]
    refine wpAnyH_take (i := 9) (oi := ⟨_, _, _, _, _, _⟩) (v := ?_) rfl (by kernel_rfl) (by kernel_rfl) (by kernel_rfl) (fun _ _ _ h => h) (Or.inl ⟨by rfl, ?_⟩) (by assumption) ?_
    rotate_left 1
    · intro W' hSw
      obtain ⟨hS1, hS2⟩ := hSw
      go_simp
      try with_reducible rfl
    try simp only [Act.put, List.setIfInBounds_toArray, List.set_cons_zero, List.set_cons_succ]
    refine wpAnyH_done (by kernel_rfl) ?_ _
    have hcore : ∀ X V', V.Extends V' → Rw tpl 4 (core (lab O5 V.heap.size X) V') (some ⟨bt, 0, none⟩) fn ts := fun X V' hx => HROW.out.grow (core_new hx X)
    cases hmb : mb
    rotate_left 1
    · have hm : t ∈ Lh := of_decide_eq_true (HMB.out.symm.trans hmb)
      have HI5' : Hid (∃ O R', RelO W bo R' O V6 ∧ RInv p R' ∧ Rw tpl 4 (core O V6) (some ⟨bt, 0, none⟩) fn ts ∧ (ts.take (j + 1)).foldl (stepT h) (R, g) = (R', g')) := by
        refine ⟨_, R5, HO5.out.grow hx6', HRI5.out, hcore _ _ hx6', ?_⟩
        rw [HNX.out, if_pos hm]
      clear HO5 HRI5 HROW HNX HLH HRL HSX hx6' hcore hmb HMB hm
      go_wp2_with fail
      refine ⟨rfl, rfl, ⟨rfl, rfl, rfl, rfl, rfl, rfl, j + 1, g', by omega, rfl, ?_, HI5'⟩, ?_⟩
      · show Value.int .i64 _ = _
        go_num
      · show fn - (intOf (Value.int .i64 _)).toNat < fn - (intOf (F5 12)).toNat
        rw [H12.out]
        simp [intOf]; omega
    have hm : t ∉ Lh := of_decide_eq_false (HMB.out.symm.trans hmb)
    have hO6 := HO5.out.grow hx6'
    have hc6 := hcore .no _ hx6'
    obtain ⟨C', la', lc', a', c', V7, O7, y1, y2, y3, hrun, y5, y6, y7, y8, y9⟩ := hO6.drew.app HLH.out t (by rw [← HLL.out]; omega)
    rw [← HLL.out] at y3 hrun y8 y9
    obtain rfl : C = C' := by
      have h9 : blk V6 bo = some C := (hx6'.blk (blk_lt w1)).trans w1
      exact Option.some.inj (h9.symm.trans y1)
    have hbt6 : blk V6 bt = some Ct := (hx6'.blk (blk_lt v2a)).trans v2a
    have hOt : lab O5 V.heap.size .no bt = .no := by rw [lab_lt (blk_lt v2a)]; exact v2b
    have hbt7 : blk V7 bt = some Ct := y7.blk (W := V6.drew) hbt6 (by rw [hOt]; exact isRo_no)
    have nt : ¬ bt = bo := fun e => by
      rw [e, lab_lt (blk_lt w1), HO5.out.lab] at hOt; cases hOt
    have hfin : ∀ X, blk (put V7 bo X) bt = some Ct := fun X => by rw [blk_put, if_neg nt]; exact hbt7
    have hal : ∀ X, blk (V6.drew.alloc X) bt = some Ct := fun X => ((extends_alloc (ext_Ext (Ext.refl _)) X : V6.drew.Extends _).blk (blk_lt (w := V6.drew) hbt6)).trans hbt6
    have HI5' : Hid (∃ O R', RelO W bo R' O (put V7 bo (splice C h [.slice a' (ll + 1) c'])) ∧ RInv p R' ∧ Rw tpl 4 (core O (put V7 bo (splice C h [.slice a' (ll + 1) c']))) (some ⟨bt, 0, none⟩) fn ts ∧ (ts.take (j + 1)).foldl (stepT h) (R, g) = (R', true)) := by
      refine ⟨O7, _, y9, HRI5.out.add (by rw [HRL.out]; exact hm) hto, ?_, ?_⟩
      · exact Rw.grow (W := core (lab O5 V.heap.size .no) V6.drew) hc6 (core_fr y8 isRo_no)
      · rw [HNX.out, if_neg hm]
    have y1' : blk V6 bo = some C := y1
    have y2' : h + 1 ≤ C.length := by omega
    have mbo : ¬ bo = V6.heap.size := Nat.ne_of_lt (blk_lt y1')
    have mbt : ¬ bt = V6.heap.size := Nat.ne_of_lt (blk_lt hbt6)
    clear HO5 HRI5 HROW HNX HLH HRL HSX hx6' hcore hO6 hc6 y7 y8 y9 y1 w1 w4 v2a hOt nt v2b hto
    go_upto_region 22 with fail
    refine wp_region_held_drew (S := fun W' => blk W' bt = some Ct) (by kernel_rfl) hbt6 (fun hHeld => ?_)
    refine wpAnyH_take (i := 0) (oi := ⟨_, _, _, _, _, _⟩) (v := ?_) rfl (by kernel_rfl) (by kernel_rfl) (by kernel_rfl) (fun _ _ _ h => h) (Or.inl ⟨by rfl, ?_⟩) (by assumption) ?_
    rotate_left 1
    · intro W' hSw
      go_simp
      try with_reducible rfl
    try simp only [Act.put, List.setIfInBounds_toArray, List.set_cons_zero, List.set_cons_succ]
    refine wpAnyH_take (i := 1) (oi := ⟨_, _, _, _, _, _⟩) (v := ?_) rfl (by kernel_rfl) (by kernel_rfl) (by kernel_rfl) (fun _ _ _ h => h) (Or.inl ⟨by rfl, ?_⟩) (by assumption) ?_
    rotate_left 1
    · intro W' hSw
      go_simp
      try with_reducible rfl
    try simp only [Act.put, List.setIfInBounds_toArray, List.set_cons_zero, List.set_cons_succ]
    refine wpAnyH_take (i := 2) (oi := ⟨_, _, _, _, _, _⟩) (v := ?_) rfl (by kernel_rfl) (by kernel_rfl) (by kernel_rfl) (fun _ _ _ h => h) (Or.inl ⟨by rfl, ?_⟩) (by assumption) ?_
    rotate_left 1
    · intro W' hSw
      go_simp
      try with_reducible rfl
    try simp only [Act.put, List.setIfInBounds_toArray, List.set_cons_zero, List.set_cons_succ]
    refine wpAnyH_take (i := 3) (oi := ⟨_, _, _, _, _, _⟩) (v := ?_) rfl (by kernel_rfl) (by kernel_rfl) (by kernel_rfl) (fun _ _ _ h => h) (Or.inl ⟨by rfl, ?_⟩) (by assumption) ?_
    rotate_left 1
    · intro W' hSw
      go_simp
      try with_reducible rfl
    try simp only [Act.put, List.setIfInBounds_toArray, List.set_cons_zero, List.set_cons_succ]
    refine wpAnyH_take (i := 4) (oi := ⟨_, _, _, _, _, _⟩) (v := ?_) rfl (by kernel_rfl) (by kernel_rfl) (by kernel_rfl) (fun _ _ _ h => h) (Or.inl ⟨by rfl, ?_⟩) (by assumption) ?_
    rotate_left 1
    · intro W' hSw
      go_simp
      try with_reducible rfl
    try simp only [Act.put, List.setIfInBounds_toArray, List.set_cons_zero, List.set_cons_succ]
    refine wpAnyH_take (i := 6) (oi := ⟨_, _, _, _, _, _⟩) (v := ?_) rfl (by kernel_rfl) (by kernel_rfl) (by kernel_rfl) (fun _ _ _ h => h) (Or.inl ⟨by rfl, ?_⟩) (by assumption) ?_
    rotate_left 1
    · intro W' hSw
      go_simp
      try with_reducible rfl
    try simp only [Act.put, List.setIfInBounds_toArray, List.set_cons_zero, List.set_cons_succ]
    refine wpAnyH_take (i := 7) (oi := ⟨_, _, _, _, _, _⟩) (v := ?_) rfl (by kernel_rfl) (by kernel_rfl) (by kernel_rfl) (fun _ _ _ h => h) (Or.inl ⟨by rfl, ?_⟩) (by assumption) ?_
    rotate_left 1
    · intro W' hSw
      go_simp
      try with_reducible rfl
    try simp only [Act.put, List.setIfInBounds_toArray, List.set_cons_zero, List.set_cons_succ]
    refine wpAnyH_take (i := 8) (oi := ⟨_, _, _, _, _, _⟩) (v := ?_) rfl (by kernel_rfl) (by kernel_rfl) (by kernel_rfl) (fun _ _ _ h => h) (Or.inl ⟨by rfl, ?_⟩) (by assumption) ?_
    rotate_left 1
    · intro W' hSw
      go_simp
      try with_reducible rfl
    try simp only [Act.put, List.setIfInBounds_toArray, List.set_cons_zero, List.set_cons_succ]
    refine wpAnyH_take (i := 9) (oi := ⟨_, _, _, _, _, _⟩) (v := ?_) rfl (by kernel_rfl) (by kernel_rfl) (by kernel_rfl) (fun _ _ _ h => h) (Or.inl ⟨by rfl, ?_⟩) (by assumption) ?_
    rotate_left 1
    · intro W' hSw
      go_simp
      try with_reducible rfl
    try simp only [Act.put, List.setIfInBounds_toArray, List.set_cons_zero, List.set_cons_succ]
    refine wpAnyH_ready (rs := [5, 10]) (by kernel_rfl) (by simp) ?_
    refine AllReadyH.cons (o := ⟨_, _, _, _, _, _⟩) rfl (fun K' hK => ?_) (AllReadyH.cons (o := ⟨_, _, _, _, _, _⟩) rfl (fun K' hK => ?_) AllReadyH.nil)
    · go_simp
      refine hK.out _ _ hbt6 (fun hHeld => ?_)
      clear hK K'
      try simp only [Act.put, List.setIfInBounds_toArray, List.set_cons_zero, List.set_cons_succ]
      refine wpAnyH_ready (rs := [10]) (by kernel_rfl) (by simp) ?_
      refine AllReadyH.cons (o := ⟨_, _, _, _, _, _⟩) rfl (fun K' hK => ?_) AllReadyH.nil
      go_simp
      refine hK.out _ _ (hal _) (fun hHeld => ?_)
      clear hK K'
      try simp only [Act.put, List.setIfInBounds_toArray, List.set_cons_zero, List.set_cons_succ]
      refine wpAnyH_ready (rs := [11]) (by kernel_rfl) (by simp) ?_
      refine AllReadyH.cons (o := ⟨_, _, _, _, _, _⟩) rfl (fun K' hK => ?_) AllReadyH.nil
      refine wp_append_run _ _ 257 rfl _ _ _ _ rfl rfl hrun ?_
      refine hK.out _ _ hbt7 (fun hHeld => ?_)
      clear hK K'
      try simp only [Act.put, List.setIfInBounds_toArray, List.set_cons_zero, List.set_cons_succ]
      refine wpAnyH_take (i := 12) (oi := ⟨_, _, _, _, _, _⟩) (v := ?_) rfl (by kernel_rfl) (by kernel_rfl) (by kernel_rfl) (fun _ _ _ h => h) (Or.inl ⟨by rfl, ?_⟩) (by assumption) ?_
      rotate_left 1
      · intro W' hSw
        go_simp
        try with_reducible rfl
      try simp only [Act.put, List.setIfInBounds_toArray, List.set_cons_zero, List.set_cons_succ]
      refine wpAnyH_ready (rs := [13]) (by kernel_rfl) (by simp) ?_
      refine AllReadyH.cons (o := ⟨_, _, _, _, _, _⟩) rfl (fun K' hK => ?_) AllReadyH.nil
      go_simp
      refine hK.out _ _ (hfin _) (fun hHeld => ?_)
      clear hK K'
      try simp only [Act.put, List.setIfInBounds_toArray, List.set_cons_zero, List.set_cons_succ]
      refine wpAnyH_done (by kernel_rfl) ?_ _
      clear hHeld hrun
      go_wp2_with fail
      refine ⟨rfl, rfl, ⟨rfl, rfl, rfl, rfl, rfl, rfl, j + 1, true, by omega, rfl, ?_, HI5'⟩, ?_⟩
      · show Value.int .i64 _ = _
        go_num
      · show fn - (intOf (Value.int .i64 _)).toNat < fn - (intOf (F5 12)).toNat
        rw [H12.out]
        simp [intOf]; omega
    · go_simp
      refine hK.out _ _ (hal _) (fun hHeld => ?_)
      clear hK K'
      try simp only [Act.put, List.setIfInBounds_toArray, List.set_cons_zero, List.set_cons_succ]
      refine wpAnyH_ready (rs := [5]) (by kernel_rfl) (by simp) ?_
      refine AllReadyH.cons (o := ⟨_, _, _, _, _, _⟩) rfl (fun K' hK => ?_) AllReadyH.nil
      go_simp
      refine hK.out _ _ (hal _) (fun hHeld => ?_)
      clear hK K'
      try simp only [Act.put, List.setIfInBounds_toArray, List.set_cons_zero, List.set_cons_succ]
      refine wpAnyH_ready (rs := [11]) (by kernel_rfl) (by simp) ?_
      refine AllReadyH.cons (o := ⟨_, _, _, _, _, _⟩) rfl (fun K' hK => ?_) AllReadyH.nil
      refine wp_append_run _ _ 257 rfl _ _ _ _ rfl rfl hrun ?_
      refine hK.out _ _ hbt7 (fun hHeld => ?_)
      clear hK K'
      try simp only [Act.put, List.setIfInBounds_toArray, List.set_cons_zero, List.set_cons_succ]
      refine wpAnyH_take (i := 12) (oi := ⟨_, _, _, _, _, _⟩) (v := ?_) rfl (by kernel_rfl) (by kernel_rfl) (by kernel_rfl) (fun _ _ _ h => h) (Or.inl ⟨by rfl, ?_⟩) (by assumption) ?_
      rotate_left 1
      · intro W' hSw
        go_simp
        try with_reducible rfl
      try simp only [Act.put, List.setIfInBounds_toArray, List.set_cons_zero, List.set_cons_succ]
      refine wpAnyH_ready (rs := [13]) (by kernel_rfl) (by simp) ?_
      refine AllReadyH.cons (o := ⟨_, _, _, _, _, _⟩) rfl (fun K' hK => ?_) AllReadyH.nil
      go_simp
      refine hK.out _ _ (hfin _) (fun hHeld => ?_)
      clear hK K'
      try simp only [Act.put, List.setIfInBounds_toArray, List.set_cons_zero, List.set_cons_succ]
      refine wpAnyH_done (by kernel_rfl) ?_ _
      clear hHeld hrun
      go_wp2_with fail
      refine ⟨rfl, rfl, ⟨rfl, rfl, rfl, rfl, rfl, rfl, j + 1, true, by omega, rfl, ?_, HI5'⟩, ?_⟩
      · show Value.int .i64 _ = _
        go_num
      · show fn - (intOf (Value.int .i64 _)).toNat < fn - (intOf (F5 12)).toNat
        rw [H12.out]
        simp [intOf]; omega
end Go.Proofs.Qxb6500787aGreat
