import Derived.Test.Qxb6500787aGreatPa

import Derived.StillTailTactics
import Derived.Deep.QuietTactic
import Derived.BigQuiet
import Derived.Deep.RegionHeld
import Derived.Deep.CutRange
import Derived.Laws.ResultCell
import Derived.Laws.Rows
import Derived.DeepKeys
import Derived.DataBytes
import Derived.Laws.StructEq
import Derived.Laws.AppendOwn
import Derived.Laws.MakeOwn
import Derived.Lib.AppendStr
set_option linter.unusedSimpArgs false
set_option linter.unusedVariables false
namespace Go.Proofs.Qxb6500787aGreat
open Go.RowKit Go.Blk
attribute [local go_sem ↓] execOp_load execOp_store execOp_alloc
attribute [local go_sem] Tryz.ld26 Tryz.st26 Tryz.ld27 Tryz.st27 Tryz.ld28 Tryz.st28 Tryz.ld3 Tryz.st3 Tryz.ld29 Tryz.st29 Tryz.ld44 Tryz.st44 Tryz.ld4 Tryz.st4 Tryz.ld50 Tryz.st50 Tryz.ld32 Tryz.st32 Tryz.ld49 Tryz.st49 Tryz.ld68 Tryz.st68 Tryz.ld9 Tryz.st9 Tryz.ld40 Tryz.st40 Tryz.ld138 Tryz.st138 Tryz.ld139 Tryz.st139 Tryz.ld146 Tryz.st146 Tryz.ld183 Tryz.st183 Tryz.ld184 Tryz.st184 Tryz.ld192 Tryz.st192 Tryz.ld195 Tryz.st195 Tryz.ld217 Tryz.st217 Tryz.ld159 Tryz.st159 Tryz.ld142 Tryz.st142 Tryz.ld2 Tryz.st2 Tryz.ld5 Tryz.st5 Tryz.ld12 Tryz.st12 Tryz.ld21 Tryz.st21 Tryz.ld22 Tryz.st22 Tryz.ld24 Tryz.st24 Tryz.ld58 Tryz.st58 Tryz.ld97 Tryz.st97 Tryz.ld101 Tryz.st101 Tryz.ld116 Tryz.st116 Tryz.ld121 Tryz.st121 Tryz.ld135 Tryz.st135 Tryz.ld136 Tryz.st136 Tryz.ld143 Tryz.st143 Tryz.ld148 Tryz.st148 Tryz.ld154 Tryz.st154 Tryz.ld173 Tryz.st173 Tryz.ld187 Tryz.st187 Tryz.ld222 Tryz.st222 Tryz.ld241 Tryz.st241 Tryz.ld248 Tryz.st248 Tryz.ld268 Tryz.st268 Tryz.ld272 Tryz.st272 Tryz.ld153 Tryz.st153 Tryz.ld255 Tryz.st255 Tryz.ld256 Tryz.st256 Tryz.ld129 Tryz.st129 Tryz.ld152 Tryz.st152 Tryz.ld31 Tryz.st31 Tryz.ld46 Tryz.st46 Tryz.ld52 Tryz.st52 Tryz.ld54 Tryz.st54 Tryz.ld60 Tryz.st60 Tryz.ld70 Tryz.st70 Tryz.ld74 Tryz.st74 Tryz.ld93 Tryz.st93 Tryz.ld141 Tryz.st141 Tryz.ld151 Tryz.st151 Tryz.ld170 Tryz.st170 Tryz.ld186 Tryz.st186 Tryz.ld189 Tryz.st189 Tryz.ld194 Tryz.st194 Tryz.ld197 Tryz.st197 Tryz.ld219 Tryz.st219 Tryz.ld224 Tryz.st224 Tryz.ld230 Tryz.st230 Tryz.ld235 Tryz.st235 Tryz.ld243 Tryz.st243 Tryz.ld247 Tryz.st247 Tryz.ld252 Tryz.st252 Tryz.ld258 Tryz.st258 Tryz.al153 Tryz.al255 Tryz.al256 Tryz.al129 Tryz.al152 Tryz.al31 Tryz.al46 Tryz.al52 Tryz.al54 Tryz.al60 Tryz.al70 Tryz.al74 Tryz.al93 Tryz.al141 Tryz.al151 Tryz.al170 Tryz.al186 Tryz.al189 Tryz.al194 Tryz.al197 Tryz.al219 Tryz.al224 Tryz.al230 Tryz.al235 Tryz.al243 Tryz.al247 Tryz.al252 Tryz.al258
attribute [local go_sem] Request.length_enc Request.ok_enc Request.all_get Request.all_set Request.kind_get Request.kind_set Request.blob_get Request.blob_set Request.items_get Request.items_set Request.pred_get Request.pred_set Request.slots_get Request.slots_set Trace.length_enc Trace.ok_enc Trace.all_get Trace.all_set Trace.op_get Trace.op_set Trace.calls_get Trace.calls_set Item.length_enc Item.ok_enc Item.all_get Item.all_set Item.del_get Item.del_set Item.pred_get Item.pred_set Item.args_get Item.args_set Reply.length_enc Reply.ok_enc Reply.all_get Reply.all_set Reply.code_get Reply.code_set Reply.kind_get Reply.kind_set Reply.index_get Reply.index_set Reply.yes_get Reply.yes_set Reply.preds_get Reply.preds_set Reply.rules_get Reply.rules_set Reply.arity_get Reply.arity_set Reply.rows_get Reply.rows_set Reply.fact_get Reply.fact_set Reply.fact_del_get Reply.fact_del_set Reply.fact_pred_get Reply.fact_pred_set Reply.fact_args_get Reply.fact_args_set GEntry.length_enc GEntry.ok_enc GEntry.all_get GEntry.all_set GEntry.seq_get GEntry.seq_set GEntry.kind_get GEntry.kind_set GEntry.code_get GEntry.code_set GOp.length_enc GOp.ok_enc GOp.all_get GOp.all_set GOp.kind_get GOp.kind_set GOp.raw_get GOp.raw_set Reader.length_enc Reader.ok_enc Reader.all_get Reader.all_set Reader.buf_get Reader.buf_set Reader.at__get Reader.at__set Slot.length_enc Slot.ok_enc Slot.all_get Slot.all_set Slot.bound_get Slot.bound_set Slot.name_get Slot.name_set Session.length_enc Session.ok_enc Session.all_get Session.all_set Session.svc_get Session.svc_set Session.buf_get Session.buf_set Session.closed_get Session.closed_set GProgram.length_enc GProgram.ok_enc GProgram.all_get GProgram.all_set GProgram.pool_get GProgram.pool_set GProgram.preds_get GProgram.preds_set GProgram.rules_get GProgram.rules_set GProgram.strata_get GProgram.strata_set PredInfo.length_enc PredInfo.ok_enc PredInfo.all_get PredInfo.all_set PredInfo.arity_get PredInfo.arity_set PredInfo.base_get PredInfo.base_set PredInfo.stratum_get PredInfo.stratum_set Change.length_enc Change.ok_enc Change.all_get Change.all_set Change.del_get Change.del_set Change.pred_get Change.pred_set Change.t_get Change.t_set Store.length_enc Store.ok_enc Store.all_get Store.all_set Store.names_get Store.names_set Store.arity_get Store.arity_set Store.rows_get Store.rows_set Src.length_enc Src.ok_enc Src.all_get Src.all_set Src.b_get Src.b_set Src.at__get Src.at__set Atom.length_enc Atom.ok_enc Atom.all_get Atom.all_set Atom.pred_get Atom.pred_set Atom.args_get Atom.args_set GRule.length_enc GRule.ok_enc GRule.all_get GRule.all_set GRule.head_get GRule.head_set GRule.body_get GRule.body_set GRule.head_pred_get GRule.head_pred_set GRule.head_args_get GRule.head_args_set Cert.length_enc Cert.ok_enc Cert.all_get Cert.all_set Cert.names_get Cert.names_set Cert.nodes_get Cert.nodes_set Fact.length_enc Fact.ok_enc Fact.all_get Fact.all_set Fact.pred_get Fact.pred_set Fact.t_get Fact.t_set Literal.length_enc Literal.ok_enc Literal.all_get Literal.all_set Literal.neg_get Literal.neg_set Literal.atom_get Literal.atom_set Literal.atom_pred_get Literal.atom_pred_set Literal.atom_args_get Literal.atom_args_set Engine.length_enc Engine.ok_enc Engine.all_get Engine.all_set Engine.prog_get Engine.prog_set Engine.st_get Engine.st_set SrcCertm.length_enc SrcCertm.ok_enc SrcCertm.all_get SrcCertm.all_set SrcCertm.b_get SrcCertm.b_set SrcCertm.at__get SrcCertm.at__set GNode.length_enc GNode.ok_enc GNode.all_get GNode.all_set GNode.rule_get GNode.rule_set GNode.pred_get GNode.pred_set GNode.vals_get GNode.vals_set GNode.refs_get GNode.refs_set Term.length_enc Term.ok_enc Term.all_get Term.all_set Term.var_get Term.var_set Term.n_get Term.n_set Env.length_enc Env.ok_enc Env.all_get Env.all_set Env.val_get Env.val_set Env.set_get Env.set_set
attribute [local go_sem] size_put size_ext blk_put free_put blk_alloc free_alloc blk_drew free_drew blk_ext free_ext lookOr_some putOr_some segAt_some cellAt_some storeIn_some put_put put_alloc_new length_arr ok_arr_u8 ok_arr_u32 ok_arr_u64 ok_arr_i64 ok_arr_sl cellsV_agg cellsV_int cellsV_bool cellsV_string cellsV_pointer cellsV_slice cellsV_sl ok_int ok_bool ok_string ok_pointer ok_slice ok_sl toList_arr seg_arr set_arr nth_splice nth_splice0 seg_splice seg_splice0 splice_splice splice_splice0 length_splice_if
attribute [local go_sem ↓] execOp_box
attribute [local go_sem] box_run nth_arr_u8 put_arr_u8 blk_drewN free_drewN put_drewN blk_raw free_raw
/-- A row is put in its place, from the right. -/
def zinsT (x : RD) : List RD → List RD
  | [] => [x]
  | y :: ys => if rlF x.2 y.2 = true then y :: zinsT x ys else x :: y :: ys
def zinsP (A : List RD) (x : RD) : List RD := (zinsT x A.reverse).reverse
def zisF (L : List RD) : List RD := L.foldl zinsP []
theorem zinsP_nil (x : RD) : zinsP [] x = [x] := rfl
theorem zinsP_snoc (A : List RD) (y x : RD) : zinsP (A ++ [y]) x = if rlF x.2 y.2 = true then zinsP A x ++ [y] else A ++ [y, x] := by
  unfold zinsP
  rw [List.reverse_append]
  show (zinsT x (y :: A.reverse)).reverse = _
  have e : zinsT x (y :: A.reverse) = if rlF x.2 y.2 = true then y :: zinsT x A.reverse else x :: y :: A.reverse := rfl
  rw [e]
  split
  · rw [List.reverse_cons]
  · rw [List.reverse_cons, List.reverse_cons, List.reverse_reverse, List.append_assoc]; rfl
theorem zinsT_len (x : RD) : ∀ L, (zinsT x L).length = L.length + 1
  | [] => rfl
  | y :: L => by
    unfold zinsT
    split
    · rw [List.length_cons, zinsT_len x L, List.length_cons]
    · rfl
theorem zinsP_len (A : List RD) (x : RD) : (zinsP A x).length = A.length + 1 := by unfold zinsP; rw [List.length_reverse, zinsT_len, List.length_reverse]
theorem zinsT_mem (x : RD) : ∀ (L : List RD) (y : RD), y ∈ zinsT x L ↔ y = x ∨ y ∈ L
  | [], y => by unfold zinsT; simp
  | z :: L, y => by
    unfold zinsT
    split
    · rw [List.mem_cons, zinsT_mem x L, List.mem_cons]
      constructor
      · rintro (h | h | h)
        · exact .inr (.inl h)
        · exact .inl h
        · exact .inr (.inr h)
      · rintro (h | h | h)
        · exact .inr (.inl h)
        · exact .inl h
        · exact .inr (.inr h)
    · rw [List.mem_cons, List.mem_cons]
theorem zinsP_mem (A : List RD) (x y : RD) : y ∈ zinsP A x ↔ y = x ∨ y ∈ A := by unfold zinsP; rw [List.mem_reverse, zinsT_mem, List.mem_reverse]
/-- The sorted rows in memory. -/
structure SoT (ar : Nat) (W : World) (O : Own) (V : World) (a : Option Addr) (n c : Nat) (L : List RD) : Prop where
  ext : W.Extends V
  lo : ∀ k, k < W.heap.size → O k = .a 9 9
  row : RowL W.heap.size O (.a 9 3) V 78 1 (.slice a n c) (L.map (·.1)).length ((L.map (·.1)).flatMap encR)
  ok : ∀ x ∈ L, x.1.len = ar ∧ Rw encS 1 W x.1.a x.1.len x.2
theorem SoT.n {ar : Nat} {W : World} {O : Own} {V : World} {a : Option Addr} {n c : Nat} {L : List RD} (h : SoT ar W O V a n c L) : L.length = n := by
  have h9 := (h.row.rw encR_len).1.1
  rw [List.length_map] at h9
  exact h9
theorem SoT.drewN {ar : Nat} {W : World} {O : Own} {V : World} {a : Option Addr} {n c : Nat} {L : List RD} (h : SoT ar W O V a n c L) (k : Nat) : SoT ar W O (V.drewN k) a n c L := ⟨extends_drewN h.ext k, h.lo, h.row, h.ok⟩
theorem SoT.rows {ar : Nat} {W : World} {O : Own} {V : World} {a : Option Addr} {n c : Nat} {L : List RD} (h : SoT ar W O V a n c L) : RowsAt V a n (L.map (·.2)) := by
  refine ⟨L.map (·.1), (h.row.rw encR_len).1, by rw [List.length_map]; exact h.n, fun i s x h1 h2 => ?_⟩
  rw [List.getElem?_map] at h1 h2
  cases hL : L[i]? with
  | none => rw [hL] at h1; cases h1
  | some y =>
    rw [hL] at h1 h2
    cases h1
    cases h2
    exact (h.ok y (List.mem_of_getElem? hL)).2.sub (Sub.ext h.ext)
theorem SoT.push {ar : Nat} {W : World} {O : Own} {V : World} {a : Option Addr} {n c : Nat} {L : List RD} (h : SoT ar W O V a n c L) (x : RD) (hx : x.1.len = ar ∧ Rw encS 1 W x.1.a x.1.len x.2) (hl : n ≤ 100000) : ∃ a' c' V' O', (Builtin.append_ #[75, 75] 75 #[.slice a n c, .slice (some ⟨V.heap.size, 0, none⟩) 1 1]).run Tryz.prog (V.alloc (.cells #[.slice x.1.a x.1.len x.1.cap] 78)) = .ok (.slice a' (n + 1) c') V' ∧ SoT ar W O' V' a' (n + 1) c' (L ++ [x]) := by
  have hn := h.n
  obtain ⟨a', c', V', hrun, hR, hF⟩ := appLB el75 75 x.1 h.row h.ext.size (by rw [List.length_map]; omega) (by rw [List.length_map]; omega) #[.slice x.1.a x.1.len x.1.cap] rfl 1
  refine ⟨a', c', V', _, hrun, hF.extends h.ext (fun k hk e => by rw [h.lo k hk] at e; cases e), fun k hk => (hF.keep k (Nat.lt_of_lt_of_le hk h.ext.size)).trans (h.lo k hk), ?_, fun y hy => ?_⟩
  · rw [List.map_append]; exact hR
  · rcases List.mem_append.1 hy with hy | hy
    · exact h.ok y hy
    · rw [List.mem_singleton.1 hy]; exact hx
/-- Two neighbours are swapped. -/
theorem SoT.swap {ar : Nat} {W : World} {O : Own} {V : World} {a : Option Addr} {n c : Nat} {A B : List RD} {x y : RD} (h : SoT ar W O V a n c (A ++ [y] ++ [x] ++ B)) : ∃ g C, a = some ⟨g, 0, none⟩ ∧ blk V g = some C ∧ free V g = true ∧ A.length + 2 ≤ C.length ∧ nth C A.length = some (Sl.val y.1) ∧ nth C (A.length + 1) = some (Sl.val x.1) ∧ W.heap.size ≤ g ∧ SoT ar W O (put V g (splice (splice C (A.length + 1) [Sl.val y.1]) A.length [Sl.val x.1])) a n c (A ++ [x] ++ [y] ++ B) := by
  have hn := h.n
  simp only [List.length_append, List.length_singleton] at hn
  have hA : A.length < n := by omega
  have hA1 : A.length + 1 < n := by omega
  obtain ⟨g, C, e1, e2, e3, e4, e5, e6, e7, e8⟩ := h.row.set encR_len hA1 y.1
  rw [Nat.mul_one] at e6 e8
  obtain ⟨g2, C2, k1, k2, k3, k4, k5, k6, k7, k8⟩ := e8.set encR_len hA x.1
  have eg : g2 = g := by rw [e1] at k1; cases k1; rfl
  subst eg
  have eC : C2 = splice C (A.length + 1) [Sl.val y.1] := by
    rw [blk_put, if_pos rfl, e2] at k2
    exact (Option.some.inj k2).symm
  rw [Nat.mul_one] at k8
  rw [put_put, eC] at k8
  have hat : ∀ i z, (A ++ [y] ++ [x] ++ B)[i]? = some z → nth C i = some (Sl.val z.1) := fun i z hz => by
    have h9 := e7 i z.1 (by rw [List.getElem?_map, hz]; rfl)
    have h8 := nth_in (j := 0) h9 (show nth (encR z.1) 0 = some (Sl.val z.1) from rfl) (by omega)
    rw [Nat.mul_one, Nat.add_zero] at h8
    exact h8
  have lA : (A ++ [y] ++ [x] ++ B)[A.length]? = some y := by
    rw [List.append_assoc, List.append_assoc, List.getElem?_append_right (Nat.le_refl _), Nat.sub_self]; rfl
  have lA1 : (A ++ [y] ++ [x] ++ B)[A.length + 1]? = some x := by
    rw [List.append_assoc, List.append_assoc, List.getElem?_append_right (by omega), Nat.add_sub_cancel_left]; rfl
  refine ⟨g2, C, e1, e2, e3, by omega, hat _ _ lA, hat _ _ lA1, e5, ?_, h.lo, ?_, fun z hz => h.ok z ?_⟩
  · exact extends_put h.ext e5 _
  · have el : (A ++ [x] ++ [y] ++ B).map (·.1) = (((A ++ [y] ++ [x] ++ B).map (·.1)).set (A.length + 1) y.1).set A.length x.1 := by
      apply List.ext_getElem?
      intro i
      rw [List.getElem?_set, List.getElem?_set, List.getElem?_map, List.getElem?_map]
      simp only [List.length_set, List.length_map, List.length_append, List.length_singleton]
      by_cases h1 : A.length = i
      · subst h1
        rw [if_pos rfl, if_pos (by omega), List.append_assoc, List.append_assoc, List.getElem?_append_right (Nat.le_refl _), Nat.sub_self]; rfl
      · rw [if_neg h1]
        by_cases h2 : A.length + 1 = i
        · subst h2
          rw [if_pos rfl, if_pos (by omega), List.append_assoc, List.append_assoc, List.getElem?_append_right (by omega), Nat.add_sub_cancel_left]; rfl
        · rw [if_neg h2]
          congr 1
          have f1 : A ++ [x] ++ [y] ++ B = A ++ x :: y :: B := by simp
          have f2 : A ++ [y] ++ [x] ++ B = A ++ y :: x :: B := by simp
          rw [f1, f2]
          by_cases h3 : i < A.length
          · rw [List.getElem?_append_left h3, List.getElem?_append_left h3]
          · rw [List.getElem?_append_right (by omega), List.getElem?_append_right (by omega)]
            obtain ⟨d, hd⟩ : ∃ d, i - A.length = d + 2 := ⟨i - A.length - 2, by omega⟩
            rw [hd]; rfl
    rw [el]
    exact k8
  · simp only [List.mem_append, List.mem_singleton] at hz ⊢
    rcases hz with ((h1 | h1) | h1) | h1
    · exact .inl (.inl (.inl h1))
    · exact .inl (.inr h1)
    · exact .inl (.inl (.inr h1))
    · exact .inr h1
def zSo1 (ar : Nat) (W : World) (ra : Option Addr) (rn rc : Nat) (L0 : List RD) (f : Nat → Value) (V : World) : Prop := f 0 = .slice ra rn rc ∧ ∃ (i : Nat) (a : Option Addr) (c : Nat), i ≤ rn ∧ f 4 = .int .i64 (i : Nat) ∧ f 3 = .slice a i c ∧ Hid (∃ O, SoT ar W O V a i c (zisF (L0.take i)))
def zSo2 (ar : Nat) (W : World) (ra : Option Addr) (rn rc i : Nat) (a : Option Addr) (c : Nat) (tot : List RD) (f : Nat → Value) (V : World) : Prop := f 0 = .slice ra rn rc ∧ f 4 = .int .i64 (i : Nat) ∧ f 3 = .slice a (i + 1) c ∧ ∃ j : Nat, j ≤ i ∧ f 5 = .int .i64 (j : Nat) ∧ Hid (∃ O A x B, A.length = j ∧ SoT ar W O V a (i + 1) c (A ++ [x] ++ B) ∧ tot = zinsP A x ++ B)
set_option maxRecDepth 100000 in
theorem zframe55s (f : Nat → Value) : frameN 55 f = #[f 0, f 1, f 2, f 3, f 4, f 5, f 6, f 7, f 8, f 9, f 10, f 11, f 12, f 13, f 14, f 15, f 16, f 17, f 18, f 19, f 20, f 21, f 22, f 23, f 24, f 25, f 26, f 27, f 28, f 29, f 30, f 31, f 32, f 33, f 34, f 35, f 36, f 37, f 38, f 39, f 40, f 41, f 42, f 43, f 44, f 45, f 46, f 47, f 48, f 49, f 50, f 51, f 52, f 53, f 54] := by kernel_rfl
def SoPost (ar : Nat) (W : World) (L0 : List RD) (e : Ending) (V : World) : Prop := ∃ a c O, e = .returned (.slice a L0.length c) ∧ SoT ar W O V a L0.length c (zisF L0)
attribute [local go_sem ↓] execOp_bslice
attribute [local go_sem] bslice75
set_option maxRecDepth 20000 in
set_option maxHeartbeats 400000 in
theorem sorted_any (W : World) (ra : Option Addr) (rn rc ar : Nat) (L0 : List RD) (hn : rn ≤ 10000) (hK : Rw encR 1 W ra rn (L0.map (·.1))) (hro : ∀ x ∈ L0, x.1.len = ar ∧ Rw encS 1 W x.1.a x.1.len x.2) (har : ar ≤ 1000) : Calls Tryz.prog 43 #[.slice ra rn rc] W (SoPost ar W L0) := by
  obtain ⟨Q, hQ⟩ : ∃ Q, Q = SoPost ar W L0 := ⟨_, rfl⟩
  rw [← hQ]
  have HQ := hid_of hQ
  have HK := hid_of hK
  have HRO := hid_of hro
  have hLn : L0.length = rn := by have h9 := hK.1; rw [List.length_map] at h9; exact h9
  have HLN := hid_of hLn
  clear hQ hK hro hLn
  go_enter Tryz.func43, Tryz.ntmps43
  go_wp2_with fail
  refine wp_loop_f 55 (zSo1 ar W ra rn rc L0) (fun f _ => rn - (intOf (f 4)).toNat) rfl ⟨rfl, 0, none, 0, by omega, rfl, rfl, ⟨fun _ => .a 9 9, ⟨ext_Ext (Ext.refl _), fun _ _ => rfl, RowL.nil _ _ _ _ _ _, fun x hx => by cases hx⟩⟩⟩ ?_
  intro F V hrel
  obtain ⟨f0, i, a, c, hi, f4, f3, HI⟩ := hrel
  have H4 := hid_of f4
  rw [zframe55s, f0, f3, f4]
  clear f0 f3 f4
  by_cases hin : i < rn
  rotate_left 1
  · obtain rfl : i = rn := by omega
    have hin' : ¬ (i : Int) < (i : Int) := by omega
    have HP : Hid (Q (.returned (.slice a i c)) V) := by
      show Q _ _
      rw [HQ.out]
      obtain ⟨O, hS⟩ := HI.out
      rw [List.take_of_length_le (by rw [HLN.out]; exact Nat.le_refl _)] at hS
      have e9 := HLN.out
      refine ⟨a, c, O, by rw [e9], ?_⟩
      rw [e9]; exact hS
    clear HI
    go_wp2_with fail
    try go_ret
    exact HP.out
  have hin' : (i : Int) < (rn : Int) := by omega
  have p0 : (0 : Int) ≤ (i : Int) := by omega
  have p2 : ((i : Int)).toNat = i := by omega
  obtain ⟨O, hS⟩ := HI.out
  obtain ⟨x, hx⟩ : ∃ x, L0[i]? = some x := ⟨_, List.getElem?_eq_getElem (by rw [HLN.out]; exact hin)⟩
  have hxo := HRO.out x (List.mem_of_getElem? hx)
  obtain ⟨b1, C1, e1, m1, m2, m3⟩ := HK.out.2 i x.1 (by rw [List.getElem?_map, hx]; rfl)
  have m4 : nth C1 i = some (.slice x.1.a x.1.len x.1.cap) := by
    have h8 := nth_in (j := 0) m3 (show nth (encR x.1) 0 = some (Sl.val x.1) from rfl) (by omega)
    rw [Nat.mul_one, Nat.add_zero] at h8
    exact h8
  have m5 : i < C1.length := by omega
  have hbV : blk V b1 = some C1 := (hS.ext.blk (blk_lt m1)).trans m1
  subst e1
  obtain ⟨a2, c2, V2, O2, hrun, hS2⟩ := hS.push x hxo (by omega)
  have HTOT : Hid (zinsP (zisF (L0.take i)) x = zisF (L0.take (i + 1))) := by
    show _ = _
    rw [take_at hx]
    unfold zisF
    rw [List.foldl_append]; rfl
  have HLI : Hid ((zisF (L0.take i)).length = i) := by
    have h9 := hS.n
    exact h9
  have HS2 := hid_of hS2
  have HX := hid_of hx
  clear hS hS2 hxo m1 m2 m3 hx HI
  go_wp2_with (at_builtin; refine wpList_append_run rfl _ _ 75 rfl _ _ _ _ rfl rfl hrun ?_)
  refine wp_loop_f 55 (zSo2 ar W (some ⟨b1, 0, none⟩) rn rc i a2 c2 (zisF (L0.take (i + 1)))) (fun f _ => (intOf (f 5)).toNat) rfl ⟨rfl, rfl, rfl, i, Nat.le_refl _, ?_, ⟨O2, zisF (L0.take i), x, [], HLI.out, by rw [List.append_nil]; exact HS2.out, by rw [List.append_nil]; exact HTOT.out.symm⟩⟩ ?_
  · show Value.int .i64 _ = _
    go_num
  clear hrun HS2 HTOT HLI hbV HX m4 m5
  intro G Y hrel2
  obtain ⟨j0, j4, j3, j, hj, j5, HJ⟩ := hrel2
  have H5 := hid_of j5
  rw [zframe55s, j0, j3, j4, j5]
  clear j0 j3 j4 j5
  obtain ⟨O3, A, z, B, hA, hSY, htot⟩ := HJ.out
  have HSY := hid_of hSY
  have HT := hid_of htot
  have HA := hid_of hA
  clear HJ htot hA
  have q0 : (0 : Int) ≤ (j : Int) := by omega
  have q2 : ((j : Int)).toNat = j := by omega
  by_cases hj0 : j = 0
  · have hjn : ¬ (0 : Int) < (j : Int) := by omega
    have hjn2 : ¬ 0 < j := by omega
    have hjn3 : decide (0 < j) = false := decide_eq_false hjn2
    have HEND : Hid (∀ k, ∃ O, SoT ar W O (Y.drewN k) a2 (i + 1) c2 (zisF (L0.take (i + 1)))) := fun k => ⟨O3, by
      have hA0 : A = [] := List.length_eq_zero_iff.1 (HA.out.trans hj0)
      rw [HT.out, hA0, zinsP_nil]
      have h9 := HSY.out
      rw [hA0] at h9
      exact h9.drewN k⟩
    clear hSY HSY hj0
    go_upto_region 7 with fail
    repeat go_step
    refine wp_region_held_drew (S := fun _ => True) (by kernel_rfl) trivial (fun hHeld => ?_)
    refine wpAnyH_take (i := 0) (oi := ⟨_, _, _, _, _, _⟩) (v := ?_) rfl (by kernel_rfl) (by kernel_rfl) (by kernel_rfl) (fun _ _ _ h => h) (Or.inl ⟨by rfl, ?_⟩) (by assumption) ?_
    rotate_left 1
    · intro W' hSw
      go_simp
      try with_reducible rfl
    try simp only [Act.put, List.setIfInBounds_toArray, List.set_cons_zero, List.set_cons_succ]
    refine wpAnyH_take (i := 1) (oi := ⟨_, _, _, _, _, _⟩) (v := ?_) rfl (by kernel_rfl) (by kernel_rfl) (by kernel_rfl) (fun _ _ _ h => h) (Or.inl ⟨by rfl, ?_⟩) (by assumption) ?_
    rotate_left 1
    · intro W' hSw
      go_simp
      try with_reducible rfl
    try simp only [Act.put, List.setIfInBounds_toArray, List.set_cons_zero, List.set_cons_succ]
    refine wpAnyH_take (i := 2) (oi := ⟨_, _, _, _, _, _⟩) (v := ?_) rfl (by kernel_rfl) (by kernel_rfl) (by kernel_rfl) (fun _ _ _ h => h) (Or.inl ⟨by rfl, ?_⟩) (by assumption) ?_
    rotate_left 1
    · intro W' hSw
      go_simp
      try with_reducible rfl
    try simp only [Act.put, List.setIfInBounds_toArray, List.set_cons_zero, List.set_cons_succ]
    refine wpAnyH_take (i := 3) (oi := ⟨_, _, _, _, _, _⟩) (v := undef) rfl (by kernel_rfl) (by kernel_rfl) (by kernel_rfl) (fun _ _ _ h => h) (Or.inr ⟨by rfl, rfl⟩) (by assumption) ?_
    try simp only [Act.put, List.setIfInBounds_toArray, List.set_cons_zero, List.set_cons_succ]
    refine wpAnyH_take (i := 4) (oi := ⟨_, _, _, _, _, _⟩) (v := undef) rfl (by kernel_rfl) (by kernel_rfl) (by kernel_rfl) (fun _ _ _ h => h) (Or.inr ⟨by rfl, rfl⟩) (by assumption) ?_
    try simp only [Act.put, List.setIfInBounds_toArray, List.set_cons_zero, List.set_cons_succ]
    refine wpAnyH_take (i := 5) (oi := ⟨_, _, _, _, _, _⟩) (v := undef) rfl (by kernel_rfl) (by kernel_rfl) (by kernel_rfl) (fun _ _ _ h => h) (Or.inr ⟨by rfl, rfl⟩) (by assumption) ?_
    try simp only [Act.put, List.setIfInBounds_toArray, List.set_cons_zero, List.set_cons_succ]
    refine wpAnyH_take (i := 6) (oi := ⟨_, _, _, _, _, _⟩) (v := undef) rfl (by kernel_rfl) (by kernel_rfl) (by kernel_rfl) (fun _ _ _ h => h) (Or.inr ⟨by rfl, rfl⟩) (by assumption) ?_
    try simp only [Act.put, List.setIfInBounds_toArray, List.set_cons_zero, List.set_cons_succ]
    refine wpAnyH_take (i := 7) (oi := ⟨_, _, _, _, _, _⟩) (v := undef) rfl (by kernel_rfl) (by kernel_rfl) (by kernel_rfl) (fun _ _ _ h => h) (Or.inr ⟨by rfl, rfl⟩) (by assumption) ?_
    try simp only [Act.put, List.setIfInBounds_toArray, List.set_cons_zero, List.set_cons_succ]
    refine wpAnyH_take (i := 8) (oi := ⟨_, _, _, _, _, _⟩) (v := undef) rfl (by kernel_rfl) (by kernel_rfl) (by kernel_rfl) (fun _ _ _ h => h) (Or.inr ⟨by rfl, rfl⟩) (by assumption) ?_
    try simp only [Act.put, List.setIfInBounds_toArray, List.set_cons_zero, List.set_cons_succ]
    refine wpAnyH_take (i := 9) (oi := ⟨_, _, _, _, _, _⟩) (v := undef) rfl (by kernel_rfl) (by kernel_rfl) (by kernel_rfl) (fun _ _ _ h => h) (Or.inr ⟨by rfl, rfl⟩) (by assumption) ?_
    try simp only [Act.put, List.setIfInBounds_toArray, List.set_cons_zero, List.set_cons_succ]
    refine wpAnyH_take (i := 10) (oi := ⟨_, _, _, _, _, _⟩) (v := undef) rfl (by kernel_rfl) (by kernel_rfl) (by kernel_rfl) (fun _ _ _ h => h) (Or.inr ⟨by rfl, rfl⟩) (by assumption) ?_
    try simp only [Act.put, List.setIfInBounds_toArray, List.set_cons_zero, List.set_cons_succ]
    refine wpAnyH_take (i := 11) (oi := ⟨_, _, _, _, _, _⟩) (v := undef) rfl (by kernel_rfl) (by kernel_rfl) (by kernel_rfl) (fun _ _ _ h => h) (Or.inr ⟨by rfl, rfl⟩) (by assumption) ?_
    try simp only [Act.put, List.setIfInBounds_toArray, List.set_cons_zero, List.set_cons_succ]
    refine wpAnyH_take (i := 12) (oi := ⟨_, _, _, _, _, _⟩) (v := undef) rfl (by kernel_rfl) (by kernel_rfl) (by kernel_rfl) (fun _ _ _ h => h) (Or.inr ⟨by rfl, rfl⟩) (by assumption) ?_
    try simp only [Act.put, List.setIfInBounds_toArray, List.set_cons_zero, List.set_cons_succ]
    refine wpAnyH_take (i := 13) (oi := ⟨_, _, _, _, _, _⟩) (v := ?_) rfl (by kernel_rfl) (by kernel_rfl) (by kernel_rfl) (fun _ _ _ h => h) (Or.inl ⟨by rfl, ?_⟩) (by assumption) ?_
    rotate_left 1
    · intro W' hSw
      go_simp
      try with_reducible rfl
    try simp only [Act.put, List.setIfInBounds_toArray, List.set_cons_zero, List.set_cons_succ]
    refine wpAnyH_done (by kernel_rfl) ?_ _
    clear hHeld
    go_wp2_with fail
    refine ⟨rfl, rfl, ⟨rfl, i + 1, a2, c2, by omega, ?_, rfl, HEND.out 1⟩, ?_⟩
    · show Value.int .i64 _ = _
      go_num
    · show rn - (intOf (Value.int .i64 _)).toNat < rn - (intOf (F 4)).toNat
      rw [H4.out]
      simp [intOf]; omega
  have hjp : (0 : Int) < (j : Int) := by omega
  have hjb : ¬ (j : Int) ≤ 0 := by omega
  obtain ⟨A', y, eA⟩ : ∃ A' y, A = A' ++ [y] := by
    have hne : A ≠ [] := fun e => by have h9 := HA.out; rw [e] at h9; exact hj0 h9.symm
    exact ⟨A.dropLast, A.getLast hne, (List.dropLast_concat_getLast hne).symm⟩
  have hA' : A'.length + 1 = j := by have h9 := HA.out; rw [eA, List.length_append, List.length_singleton] at h9; exact h9
  rw [eA] at hSY
  obtain ⟨g, C, rfl, hbg, hfg, hCl, hcy, hcz, hgn, hSw⟩ := hSY.swap
  have hoy := hSY.ok y (by simp)
  have hoz := hSY.ok z (by simp)
  obtain ⟨n1, hn1⟩ : ∃ n1, n1 = A'.length := ⟨_, rfl⟩
  rw [← hn1] at hCl hcy hcz hSw
  have hj1 : j = n1 + 1 := by omega
  subst hj1
  have hcz' : nth C (n1 + 1) = some (.slice z.1.a z.1.len z.1.cap) := hcz
  have hcy' : nth C n1 = some (.slice y.1.a y.1.len y.1.cap) := hcy
  have hsub : ((n1 + 1 : Nat) : Int) - 1 = (n1 : Int) := by omega
  have t1 : (0 : Int) ≤ (n1 : Int) + 1 := by omega
  have t2 : n1 < i := by omega
  have t3 : IntKind.i64.wrap (n1 : Int) = (n1 : Int) := by rw [IntKind.wrap_i64]; omega
  have t4 : (n1 : Int) < (i : Int) + 1 := by omega
  have t5 : n1 < i + 1 := by omega
  have l1 : n1 < C.length := by omega
  have l2 : n1 + 1 < C.length := by omega
  have l3 : n1 + 1 ≤ C.length := by omega
  have hin1 : ((n1 + 1 : Nat) : Int) < ((i + 1 : Nat) : Int) := by omega
  have hin2 : (n1 : Int) < ((i + 1 : Nat) : Int) := by omega
  have hw1 : IntKind.i64.wrap (((n1 + 1 : Nat) : Int) - 1) = (n1 : Int) := by rw [hsub, IntKind.wrap_i64]; omega
  have hless : ∀ k, Calls Tryz.prog 45 #[.slice z.1.a z.1.len z.1.cap, .slice y.1.a y.1.len y.1.cap] (Y.drewN k) fun e V => e = .returned (.bool (rlF z.2 y.2)) ∧ ∃ q, V = (Y.drewN k).drewN q := fun k => by
    have h1 := hoz.2.sub (Sub.ext (extends_drewN hSY.ext k))
    have h2 := hoy.2.sub (Sub.ext (extends_drewN hSY.ext k))
    rw [hoz.1] at h1 ⊢
    rw [hoy.1] at h2 ⊢
    exact zless_any (Y.drewN k) _ _ ar _ _ (by omega) z.2 y.2 h1 h2
  obtain ⟨za, zn, zc, ez⟩ : ∃ za zn zc, z.1 = (⟨za, zn, zc⟩ : Sl) := ⟨_, _, _, rfl⟩
  obtain ⟨ya, yn, yc, ey⟩ : ∃ ya yn yc, y.1 = (⟨ya, yn, yc⟩ : Sl) := ⟨_, _, _, rfl⟩
  rw [ez] at hless hcz'
  rw [ey] at hless hcy'
  dsimp only at hless hcz' hcy'
  obtain ⟨ls, els⟩ : ∃ ls, ls = rlF z.2 y.2 := ⟨_, rfl⟩
  rw [← els] at hless
  have hl1 : Calls Tryz.prog 45 #[.slice za zn zc, .slice ya yn yc] Y.drew fun e V => e = .returned (.bool ls) ∧ ∃ q, V = (Y.drewN 1).drewN q := hless 1
  have HSW : Hid (SoT ar W O3 (put Y g (splice (splice C (n1 + 1) [.slice ya yn yc]) n1 [.slice za zn zc])) (some ⟨g, 0, none⟩) (i + 1) c2 (A' ++ [z] ++ [y] ++ B)) := by
    have h9 := hSw
    rw [ez, ey] at h9
    exact h9
  have HT2 : Hid (zisF (L0.take (i + 1)) = (if ls = true then zinsP A' z ++ [y] else A' ++ [y, z]) ++ B) := by
    show _ = _
    rw [HT.out, eA, zinsP_snoc, els]
  have HNE : Hid (A'.length = n1) := hn1.symm
  have HEA := hid_of eA
  clear hSY hSw hoy hoz hn1 hA' HT eA ez ey els hless hcy hcz HA
  go_upto_region 7 with fail
  repeat go_step
  refine wp_region_held_drew (S := fun W' => blk W' g = some C) (by kernel_rfl) hbg (fun hHeld => ?_)
  refine wpAnyH_take (i := 0) (oi := ⟨_, _, _, _, _, _⟩) (v := ?_) rfl (by kernel_rfl) (by kernel_rfl) (by kernel_rfl) (fun _ _ _ h => h) (Or.inl ⟨by rfl, ?_⟩) (by assumption) ?_
  rotate_left 1
  · intro W' hSw
    go_simp
    try with_reducible rfl
  try simp only [Act.put, List.setIfInBounds_toArray, List.set_cons_zero, List.set_cons_succ]
  refine wpAnyH_take (i := 1) (oi := ⟨_, _, _, _, _, _⟩) (v := ?_) rfl (by kernel_rfl) (by kernel_rfl) (by kernel_rfl) (fun _ _ _ h => h) (Or.inl ⟨by rfl, ?_⟩) (by assumption) ?_
  rotate_left 1
  · intro W' hSw
    go_simp
    try with_reducible rfl
  try simp only [Act.put, List.setIfInBounds_toArray, List.set_cons_zero, List.set_cons_succ]
  refine wpAnyH_take (i := 2) (oi := ⟨_, _, _, _, _, _⟩) (v := ?_) rfl (by kernel_rfl) (by kernel_rfl) (by kernel_rfl) (fun _ _ _ h => h) (Or.inl ⟨by rfl, ?_⟩) (by assumption) ?_
  rotate_left 1
  · intro W' hSw
    go_simp
    try with_reducible rfl
  try simp only [Act.put, List.setIfInBounds_toArray, List.set_cons_zero, List.set_cons_succ]
  refine wpAnyH_take (i := 3) (oi := ⟨_, _, _, _, _, _⟩) (v := ?_) rfl (by kernel_rfl) (by kernel_rfl) (by kernel_rfl) (fun _ _ _ h => h) (Or.inl ⟨by rfl, ?_⟩) (by assumption) ?_
  rotate_left 1
  · intro W' hSw
    go_simp
    try with_reducible rfl
  try simp only [Act.put, List.setIfInBounds_toArray, List.set_cons_zero, List.set_cons_succ]
  refine wpAnyH_take (i := 4) (oi := ⟨_, _, _, _, _, _⟩) (v := ?_) rfl (by kernel_rfl) (by kernel_rfl) (by kernel_rfl) (fun _ _ _ h => h) (Or.inl ⟨by rfl, ?_⟩) (by assumption) ?_
  rotate_left 1
  · intro W' hSw
    go_simp
    try with_reducible rfl
  try simp only [Act.put, List.setIfInBounds_toArray, List.set_cons_zero, List.set_cons_succ]
  refine wpAnyH_take (i := 5) (oi := ⟨_, _, _, _, _, _⟩) (v := ?_) rfl (by kernel_rfl) (by kernel_rfl) (by kernel_rfl) (fun _ _ _ h => h) (Or.inl ⟨by rfl, ?_⟩) (by assumption) ?_
  rotate_left 1
  · intro W' hSw
    go_simp
    try with_reducible rfl
  try simp only [Act.put, List.setIfInBounds_toArray, List.set_cons_zero, List.set_cons_succ]
  refine wpAnyH_take (i := 6) (oi := ⟨_, _, _, _, _, _⟩) (v := ?_) rfl (by kernel_rfl) (by kernel_rfl) (by kernel_rfl) (fun _ _ _ h => h) (Or.inl ⟨by rfl, ?_⟩) (by assumption) ?_
  rotate_left 1
  · intro W' hSw
    go_simp
    try with_reducible rfl
  try simp only [Act.put, List.setIfInBounds_toArray, List.set_cons_zero, List.set_cons_succ]
  refine wpAnyH_take (i := 7) (oi := ⟨_, _, _, _, _, _⟩) (v := ?_) rfl (by kernel_rfl) (by kernel_rfl) (by kernel_rfl) (fun _ _ _ h => h) (Or.inl ⟨by rfl, ?_⟩) (by assumption) ?_
  rotate_left 1
  · intro W' hSw
    go_simp
    try with_reducible rfl
  try simp only [Act.put, List.setIfInBounds_toArray, List.set_cons_zero, List.set_cons_succ]
  refine wpAnyH_take (i := 8) (oi := ⟨_, _, _, _, _, _⟩) (v := ?_) rfl (by kernel_rfl) (by kernel_rfl) (by kernel_rfl) (fun _ _ _ h => h) (Or.inl ⟨by rfl, ?_⟩) (by assumption) ?_
  rotate_left 1
  · intro W' hSw
    go_simp
    try with_reducible rfl
  try simp only [Act.put, List.setIfInBounds_toArray, List.set_cons_zero, List.set_cons_succ]
  refine wpAnyH_take (i := 9) (oi := ⟨_, _, _, _, _, _⟩) (v := ?_) rfl (by kernel_rfl) (by kernel_rfl) (by kernel_rfl) (fun _ _ _ h => h) (Or.inl ⟨by rfl, ?_⟩) (by assumption) ?_
  rotate_left 1
  · intro W' hSw
    go_simp
    try with_reducible rfl
  try simp only [Act.put, List.setIfInBounds_toArray, List.set_cons_zero, List.set_cons_succ]
  refine wpAnyH_take (i := 10) (oi := ⟨_, _, _, _, _, _⟩) (v := ?_) rfl (by kernel_rfl) (by kernel_rfl) (by kernel_rfl) (fun _ _ _ h => h) (Or.inl ⟨by rfl, ?_⟩) (by assumption) ?_
  rotate_left 1
  · intro W' hSw
    go_simp
    try with_reducible rfl
  try simp only [Act.put, List.setIfInBounds_toArray, List.set_cons_zero, List.set_cons_succ]
  refine wpAnyH_take (i := 11) (oi := ⟨_, _, _, _, _, _⟩) (v := ?_) rfl (by kernel_rfl) (by kernel_rfl) (by kernel_rfl) (fun _ _ _ h => h) (Or.inl ⟨by rfl, ?_⟩) (by assumption) ?_
  rotate_left 1
  · intro W' hSw
    go_simp
    try with_reducible rfl
  try simp only [Act.put, List.setIfInBounds_toArray, List.set_cons_zero, List.set_cons_succ]
  refine wpAnyH_ready (rs := [12]) (by kernel_rfl) (by simp) ?_
  refine AllReadyH.cons (o := ⟨_, _, _, _, _, _⟩) rfl (fun K' hK => ?_) AllReadyH.nil
  go_simp
  refine hl1.mono ?_
  rintro e Y2 ⟨rfl, q, rfl⟩
  dsimp only
  have hbq : blk ((Y.drewN 1).drewN q) g = some C := hbg
  refine hK.out _ _ hbq (fun hHeld => ?_)
  clear hK K'
  try simp only [Act.put, List.setIfInBounds_toArray, List.set_cons_zero, List.set_cons_succ]
  refine wpAnyH_take (i := 13) (oi := ⟨_, _, _, _, _, _⟩) (v := ?_) rfl (by kernel_rfl) (by kernel_rfl) (by kernel_rfl) (fun _ _ _ h => h) (Or.inl ⟨by rfl, ?_⟩) (by assumption) ?_
  rotate_left 1
  · intro W' hSw
    go_simp
    try with_reducible rfl
  try simp only [Act.put, List.setIfInBounds_toArray, List.set_cons_zero, List.set_cons_succ]
  refine wpAnyH_done (by kernel_rfl) ?_ _
  clear hHeld
  obtain ⟨Z, hZ⟩ : ∃ Z, Z = (Y.drewN 1).drewN q := ⟨_, rfl⟩
  rw [← hZ] at hbq ⊢
  have hfq : free Z g = true := by rw [hZ]; exact hfg
  have HZE : Hid (∀ k C', put (Z.drewN k) g C' = (((put Y g C').drewN 1).drewN q).drewN k) := fun k C' => by rw [hZ, put_drewN, put_drewN, put_drewN]
  have HSZ : Hid (SoT ar W O3 Z (some ⟨g, 0, none⟩) (i + 1) c2 (A ++ [z] ++ B)) := by
    show SoT _ _ _ _ _ _ _ _
    rw [hZ]
    exact (HSY.out.drewN 1).drewN q
  clear hZ hl1 hbg hfg HSY
  cases ls with
  | false =>
    have HEND : Hid (∃ O, SoT ar W O Z (some ⟨g, 0, none⟩) (i + 1) c2 (zisF (L0.take (i + 1)))) := ⟨O3, by
      rw [HT2.out, if_neg (by decide)]
      have h9 := HSZ.out
      rw [HEA.out] at h9
      have e9 : A' ++ [y] ++ [z] ++ B = A' ++ [y, z] ++ B := by simp
      rw [e9] at h9
      exact h9⟩
    clear HSZ HT2 HSW
    go_wp2_with fail
    refine ⟨rfl, rfl, ⟨rfl, i + 1, some ⟨g, 0, none⟩, c2, by omega, ?_, rfl, HEND.out⟩, ?_⟩
    · show Value.int .i64 _ = _
      go_num
    · show rn - (intOf (Value.int .i64 _)).toNat < rn - (intOf (F 4)).toNat
      rw [H4.out]
      simp [intOf]; omega
  | true =>
    clear HSZ
    go_upto_region 9 with fail
    repeat go_step
    refine wp_region_held_drew (S := fun _ => True) (by kernel_rfl) trivial (fun hHeld => ?_)
    refine wpAnyH_take (i := 0) (oi := ⟨_, _, _, _, _, _⟩) (v := ?_) rfl (by kernel_rfl) (by kernel_rfl) (by kernel_rfl) (fun _ _ _ h => h) (Or.inl ⟨by rfl, ?_⟩) (by assumption) ?_
    rotate_left 1
    · intro W' hSw
      go_simp
      try with_reducible rfl
    try simp only [Act.put, List.setIfInBounds_toArray, List.set_cons_zero, List.set_cons_succ]
    refine wpAnyH_take (i := 1) (oi := ⟨_, _, _, _, _, _⟩) (v := ?_) rfl (by kernel_rfl) (by kernel_rfl) (by kernel_rfl) (fun _ _ _ h => h) (Or.inl ⟨by rfl, ?_⟩) (by assumption) ?_
    rotate_left 1
    · intro W' hSw
      go_simp
      try with_reducible rfl
    try simp only [Act.put, List.setIfInBounds_toArray, List.set_cons_zero, List.set_cons_succ]
    refine wpAnyH_take (i := 2) (oi := ⟨_, _, _, _, _, _⟩) (v := ?_) rfl (by kernel_rfl) (by kernel_rfl) (by kernel_rfl) (fun _ _ _ h => h) (Or.inl ⟨by rfl, ?_⟩) (by assumption) ?_
    rotate_left 1
    · intro W' hSw
      go_simp
      try with_reducible rfl
    try simp only [Act.put, List.setIfInBounds_toArray, List.set_cons_zero, List.set_cons_succ]
    refine wpAnyH_take (i := 3) (oi := ⟨_, _, _, _, _, _⟩) (v := ?_) rfl (by kernel_rfl) (by kernel_rfl) (by kernel_rfl) (fun _ _ _ h => h) (Or.inl ⟨by rfl, ?_⟩) (by assumption) ?_
    rotate_left 1
    · intro W' hSw
      go_simp
      try with_reducible rfl
    try simp only [Act.put, List.setIfInBounds_toArray, List.set_cons_zero, List.set_cons_succ]
    refine wpAnyH_take (i := 4) (oi := ⟨_, _, _, _, _, _⟩) (v := ?_) rfl (by kernel_rfl) (by kernel_rfl) (by kernel_rfl) (fun _ _ _ h => h) (Or.inl ⟨by rfl, ?_⟩) (by assumption) ?_
    rotate_left 1
    · intro W' hSw
      go_simp
      try with_reducible rfl
    try simp only [Act.put, List.setIfInBounds_toArray, List.set_cons_zero, List.set_cons_succ]
    refine wpAnyH_take (i := 5) (oi := ⟨_, _, _, _, _, _⟩) (v := ?_) rfl (by kernel_rfl) (by kernel_rfl) (by kernel_rfl) (fun _ _ _ h => h) (Or.inl ⟨by rfl, ?_⟩) (by assumption) ?_
    rotate_left 1
    · intro W' hSw
      go_simp
      try with_reducible rfl
    try simp only [Act.put, List.setIfInBounds_toArray, List.set_cons_zero, List.set_cons_succ]
    refine wpAnyH_take (i := 6) (oi := ⟨_, _, _, _, _, _⟩) (v := ?_) rfl (by kernel_rfl) (by kernel_rfl) (by kernel_rfl) (fun _ _ _ h => h) (Or.inl ⟨by rfl, ?_⟩) (by assumption) ?_
    rotate_left 1
    · intro W' hSw
      go_simp
      try with_reducible rfl
    try simp only [Act.put, List.setIfInBounds_toArray, List.set_cons_zero, List.set_cons_succ]
    refine wpAnyH_take (i := 7) (oi := ⟨_, _, _, _, _, _⟩) (v := ?_) rfl (by kernel_rfl) (by kernel_rfl) (by kernel_rfl) (fun _ _ _ h => h) (Or.inl ⟨by rfl, ?_⟩) (by assumption) ?_
    rotate_left 1
    · intro W' hSw
      go_simp
      try with_reducible rfl
    try simp only [Act.put, List.setIfInBounds_toArray, List.set_cons_zero, List.set_cons_succ]
    refine wpAnyH_take (i := 8) (oi := ⟨_, _, _, _, _, _⟩) (v := ?_) rfl (by kernel_rfl) (by kernel_rfl) (by kernel_rfl) (fun _ _ _ h => h) (Or.inl ⟨by rfl, ?_⟩) (by assumption) ?_
    rotate_left 1
    · intro W' hSw
      go_simp
      try with_reducible rfl
    try simp only [Act.put, List.setIfInBounds_toArray, List.set_cons_zero, List.set_cons_succ]
    refine wpAnyH_take (i := 10) (oi := ⟨_, _, _, _, _, _⟩) (v := ?_) rfl (by kernel_rfl) (by kernel_rfl) (by kernel_rfl) (fun _ _ _ h => h) (Or.inl ⟨by rfl, ?_⟩) (by assumption) ?_
    rotate_left 1
    · intro W' hSw
      go_simp
      try with_reducible rfl
    try simp only [Act.put, List.setIfInBounds_toArray, List.set_cons_zero, List.set_cons_succ]
    refine wpAnyH_take (i := 11) (oi := ⟨_, _, _, _, _, _⟩) (v := ?_) rfl (by kernel_rfl) (by kernel_rfl) (by kernel_rfl) (fun _ _ _ h => h) (Or.inl ⟨by rfl, ?_⟩) (by assumption) ?_
    rotate_left 1
    · intro W' hSw
      go_simp
      try with_reducible rfl
    try simp only [Act.put, List.setIfInBounds_toArray, List.set_cons_zero, List.set_cons_succ]
    refine wpAnyH_take (i := 12) (oi := ⟨_, _, _, _, _, _⟩) (v := ?_) rfl (by kernel_rfl) (by kernel_rfl) (by kernel_rfl) (fun _ _ _ h => h) (Or.inl ⟨by rfl, ?_⟩) (by assumption) ?_
    rotate_left 1
    · intro W' hSw
      go_simp
      try with_reducible rfl
    try simp only [Act.put, List.setIfInBounds_toArray, List.set_cons_zero, List.set_cons_succ]
    refine wpAnyH_ready (rs := [9, 13]) (by kernel_rfl) (by simp) ?_
    refine AllReadyH.cons (o := ⟨_, _, _, _, _, _⟩) rfl (fun K' hK => ?_) (AllReadyH.cons (o := ⟨_, _, _, _, _, _⟩) rfl (fun K' hK => ?_) AllReadyH.nil)
    · go_simp
      refine hK.out _ _ trivial (fun hHeld => ?_)
      clear hK K'
      try simp only [Act.put, List.setIfInBounds_toArray, List.set_cons_zero, List.set_cons_succ]
      refine wpAnyH_ready (rs := [13]) (by kernel_rfl) (by simp) ?_
      refine AllReadyH.cons (o := ⟨_, _, _, _, _, _⟩) rfl (fun K' hK => ?_) AllReadyH.nil
      go_simp
      refine hK.out _ _ trivial (fun hHeld => ?_)
      clear hK K'
      try simp only [Act.put, List.setIfInBounds_toArray, List.set_cons_zero, List.set_cons_succ]
      refine wpAnyH_take (i := 14) (oi := ⟨_, _, _, _, _, _⟩) (v := ?_) rfl (by kernel_rfl) (by kernel_rfl) (by kernel_rfl) (fun _ _ _ h => h) (Or.inl ⟨by rfl, ?_⟩) (by assumption) ?_
      rotate_left 1
      · intro W' hSw
        go_simp
        try with_reducible rfl
      try simp only [Act.put, List.setIfInBounds_toArray, List.set_cons_zero, List.set_cons_succ]
      refine wpAnyH_ready (rs := [15]) (by kernel_rfl) (by simp) ?_
      refine AllReadyH.cons (o := ⟨_, _, _, _, _, _⟩) rfl (fun K' hK => ?_) AllReadyH.nil
      go_simp
      refine hK.out _ _ trivial (fun hHeld => ?_)
      clear hK K'
      try simp only [Act.put, List.setIfInBounds_toArray, List.set_cons_zero, List.set_cons_succ]
      refine wpAnyH_take (i := 16) (oi := ⟨_, _, _, _, _, _⟩) (v := ?_) rfl (by kernel_rfl) (by kernel_rfl) (by kernel_rfl) (fun _ _ _ h => h) (Or.inl ⟨by rfl, ?_⟩) (by assumption) ?_
      rotate_left 1
      · intro W' hSw
        go_simp
        try with_reducible rfl
      try simp only [Act.put, List.setIfInBounds_toArray, List.set_cons_zero, List.set_cons_succ]
      refine wpAnyH_ready (rs := [17]) (by kernel_rfl) (by simp) ?_
      refine AllReadyH.cons (o := ⟨_, _, _, _, _, _⟩) rfl (fun K' hK => ?_) AllReadyH.nil
      go_simp
      refine hK.out _ _ trivial (fun hHeld => ?_)
      clear hK K'
      try simp only [Act.put, List.setIfInBounds_toArray, List.set_cons_zero, List.set_cons_succ]
      refine wpAnyH_done (by kernel_rfl) ?_ _
      have HNX : Hid (∃ O A x B, A.length = n1 ∧ SoT ar W O (put Z.drew g (splice (splice C (n1 + 1) [.slice ya yn yc]) n1 [.slice za zn zc])) (some ⟨g, 0, none⟩) (i + 1) c2 (A ++ [x] ++ B) ∧ zisF (L0.take (i + 1)) = zinsP A x ++ B) := by
        refine ⟨O3, A', z, [y] ++ B, HNE.out, ?_, ?_⟩
        · have h9 := ((HSW.out.drewN 1).drewN q).drewN 1
          rw [← HZE.out] at h9
          rw [List.append_assoc _ [y] B] at h9
          exact h9
        · rw [HT2.out, if_pos rfl, List.append_assoc]
      clear hHeld HSW HT2 HZE
      go_wp2_with fail
      refine ⟨rfl, rfl, ⟨rfl, rfl, rfl, n1, by omega, ?_, HNX.out⟩, ?_⟩
      · show Value.int .i64 _ = _
        go_num
      · show (intOf (Value.int .i64 _)).toNat < (intOf (G 5)).toNat
        rw [H5.out]
        simp [intOf]
    · go_simp
      refine hK.out _ _ trivial (fun hHeld => ?_)
      clear hK K'
      try simp only [Act.put, List.setIfInBounds_toArray, List.set_cons_zero, List.set_cons_succ]
      refine wpAnyH_ready (rs := [9]) (by kernel_rfl) (by simp) ?_
      refine AllReadyH.cons (o := ⟨_, _, _, _, _, _⟩) rfl (fun K' hK => ?_) AllReadyH.nil
      go_simp
      refine hK.out _ _ trivial (fun hHeld => ?_)
      clear hK K'
      try simp only [Act.put, List.setIfInBounds_toArray, List.set_cons_zero, List.set_cons_succ]
      refine wpAnyH_take (i := 14) (oi := ⟨_, _, _, _, _, _⟩) (v := ?_) rfl (by kernel_rfl) (by kernel_rfl) (by kernel_rfl) (fun _ _ _ h => h) (Or.inl ⟨by rfl, ?_⟩) (by assumption) ?_
      rotate_left 1
      · intro W' hSw
        go_simp
        try with_reducible rfl
      try simp only [Act.put, List.setIfInBounds_toArray, List.set_cons_zero, List.set_cons_succ]
      refine wpAnyH_ready (rs := [15]) (by kernel_rfl) (by simp) ?_
      refine AllReadyH.cons (o := ⟨_, _, _, _, _, _⟩) rfl (fun K' hK => ?_) AllReadyH.nil
      go_simp
      refine hK.out _ _ trivial (fun hHeld => ?_)
      clear hK K'
      try simp only [Act.put, List.setIfInBounds_toArray, List.set_cons_zero, List.set_cons_succ]
      refine wpAnyH_take (i := 16) (oi := ⟨_, _, _, _, _, _⟩) (v := ?_) rfl (by kernel_rfl) (by kernel_rfl) (by kernel_rfl) (fun _ _ _ h => h) (Or.inl ⟨by rfl, ?_⟩) (by assumption) ?_
      rotate_left 1
      · intro W' hSw
        go_simp
        try with_reducible rfl
      try simp only [Act.put, List.setIfInBounds_toArray, List.set_cons_zero, List.set_cons_succ]
      refine wpAnyH_ready (rs := [17]) (by kernel_rfl) (by simp) ?_
      refine AllReadyH.cons (o := ⟨_, _, _, _, _, _⟩) rfl (fun K' hK => ?_) AllReadyH.nil
      go_simp
      refine hK.out _ _ trivial (fun hHeld => ?_)
      clear hK K'
      try simp only [Act.put, List.setIfInBounds_toArray, List.set_cons_zero, List.set_cons_succ]
      refine wpAnyH_done (by kernel_rfl) ?_ _
      have HNX : Hid (∃ O A x B, A.length = n1 ∧ SoT ar W O (put Z.drew g (splice (splice C (n1 + 1) [.slice ya yn yc]) n1 [.slice za zn zc])) (some ⟨g, 0, none⟩) (i + 1) c2 (A ++ [x] ++ B) ∧ zisF (L0.take (i + 1)) = zinsP A x ++ B) := by
        refine ⟨O3, A', z, [y] ++ B, HNE.out, ?_, ?_⟩
        · have h9 := ((HSW.out.drewN 1).drewN q).drewN 1
          rw [← HZE.out] at h9
          rw [List.append_assoc _ [y] B] at h9
          exact h9
        · rw [HT2.out, if_pos rfl, List.append_assoc]
      clear hHeld HSW HT2 HZE
      go_wp2_with fail
      refine ⟨rfl, rfl, ⟨rfl, rfl, rfl, n1, by omega, ?_, HNX.out⟩, ?_⟩
      · show Value.int .i64 _ = _
        go_num
      · show (intOf (Value.int .i64 _)).toNat < (intOf (G 5)).toNat
        rw [H5.out]
        simp [intOf]
end Go.Proofs.Qxb6500787aGreat
