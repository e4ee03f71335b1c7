import Derived.Test.Qxb6500787aGreatEd

import Derived.StillTailTactics
import Derived.Deep.QuietTactic
import Derived.BigQuiet
import Derived.Deep.RegionHeld
import Derived.Deep.CutRange
import Derived.Laws.ResultCell
import Derived.Laws.Rows
import Derived.DeepKeys
import Derived.DataBytes
import Derived.Laws.StructEq
import Derived.Laws.AppendOwn
import Derived.Laws.MakeOwn
import Derived.Lib.AppendStr
set_option linter.unusedSimpArgs false
set_option linter.unusedVariables false
namespace Go.Proofs.Qxb6500787aGreat
open Go.RowKit Go.Blk
attribute [local go_sem ↓] execOp_load execOp_store execOp_alloc
attribute [local go_sem] Tryz.ld26 Tryz.st26 Tryz.ld27 Tryz.st27 Tryz.ld28 Tryz.st28 Tryz.ld3 Tryz.st3 Tryz.ld29 Tryz.st29 Tryz.ld44 Tryz.st44 Tryz.ld4 Tryz.st4 Tryz.ld50 Tryz.st50 Tryz.ld32 Tryz.st32 Tryz.ld49 Tryz.st49 Tryz.ld68 Tryz.st68 Tryz.ld9 Tryz.st9 Tryz.ld40 Tryz.st40 Tryz.ld138 Tryz.st138 Tryz.ld139 Tryz.st139 Tryz.ld146 Tryz.st146 Tryz.ld183 Tryz.st183 Tryz.ld184 Tryz.st184 Tryz.ld192 Tryz.st192 Tryz.ld195 Tryz.st195 Tryz.ld217 Tryz.st217 Tryz.ld159 Tryz.st159 Tryz.ld142 Tryz.st142 Tryz.ld2 Tryz.st2 Tryz.ld5 Tryz.st5 Tryz.ld12 Tryz.st12 Tryz.ld21 Tryz.st21 Tryz.ld22 Tryz.st22 Tryz.ld24 Tryz.st24 Tryz.ld58 Tryz.st58 Tryz.ld97 Tryz.st97 Tryz.ld101 Tryz.st101 Tryz.ld116 Tryz.st116 Tryz.ld121 Tryz.st121 Tryz.ld135 Tryz.st135 Tryz.ld136 Tryz.st136 Tryz.ld143 Tryz.st143 Tryz.ld148 Tryz.st148 Tryz.ld154 Tryz.st154 Tryz.ld173 Tryz.st173 Tryz.ld187 Tryz.st187 Tryz.ld222 Tryz.st222 Tryz.ld241 Tryz.st241 Tryz.ld248 Tryz.st248 Tryz.ld268 Tryz.st268 Tryz.ld272 Tryz.st272 Tryz.ld153 Tryz.st153 Tryz.ld255 Tryz.st255 Tryz.ld256 Tryz.st256 Tryz.ld129 Tryz.st129 Tryz.ld152 Tryz.st152 Tryz.ld31 Tryz.st31 Tryz.ld46 Tryz.st46 Tryz.ld52 Tryz.st52 Tryz.ld54 Tryz.st54 Tryz.ld60 Tryz.st60 Tryz.ld70 Tryz.st70 Tryz.ld74 Tryz.st74 Tryz.ld93 Tryz.st93 Tryz.ld141 Tryz.st141 Tryz.ld151 Tryz.st151 Tryz.ld170 Tryz.st170 Tryz.ld186 Tryz.st186 Tryz.ld189 Tryz.st189 Tryz.ld194 Tryz.st194 Tryz.ld197 Tryz.st197 Tryz.ld219 Tryz.st219 Tryz.ld224 Tryz.st224 Tryz.ld230 Tryz.st230 Tryz.ld235 Tryz.st235 Tryz.ld243 Tryz.st243 Tryz.ld247 Tryz.st247 Tryz.ld252 Tryz.st252 Tryz.ld258 Tryz.st258 Tryz.al153 Tryz.al255 Tryz.al256 Tryz.al129 Tryz.al152 Tryz.al31 Tryz.al46 Tryz.al52 Tryz.al54 Tryz.al60 Tryz.al70 Tryz.al74 Tryz.al93 Tryz.al141 Tryz.al151 Tryz.al170 Tryz.al186 Tryz.al189 Tryz.al194 Tryz.al197 Tryz.al219 Tryz.al224 Tryz.al230 Tryz.al235 Tryz.al243 Tryz.al247 Tryz.al252 Tryz.al258
attribute [local go_sem] Request.length_enc Request.ok_enc Request.all_get Request.all_set Request.kind_get Request.kind_set Request.blob_get Request.blob_set Request.items_get Request.items_set Request.pred_get Request.pred_set Request.slots_get Request.slots_set Trace.length_enc Trace.ok_enc Trace.all_get Trace.all_set Trace.op_get Trace.op_set Trace.calls_get Trace.calls_set Item.length_enc Item.ok_enc Item.all_get Item.all_set Item.del_get Item.del_set Item.pred_get Item.pred_set Item.args_get Item.args_set Reply.length_enc Reply.ok_enc Reply.all_get Reply.all_set Reply.code_get Reply.code_set Reply.kind_get Reply.kind_set Reply.index_get Reply.index_set Reply.yes_get Reply.yes_set Reply.preds_get Reply.preds_set Reply.rules_get Reply.rules_set Reply.arity_get Reply.arity_set Reply.rows_get Reply.rows_set Reply.fact_get Reply.fact_set Reply.fact_del_get Reply.fact_del_set Reply.fact_pred_get Reply.fact_pred_set Reply.fact_args_get Reply.fact_args_set GEntry.length_enc GEntry.ok_enc GEntry.all_get GEntry.all_set GEntry.seq_get GEntry.seq_set GEntry.kind_get GEntry.kind_set GEntry.code_get GEntry.code_set GOp.length_enc GOp.ok_enc GOp.all_get GOp.all_set GOp.kind_get GOp.kind_set GOp.raw_get GOp.raw_set Reader.length_enc Reader.ok_enc Reader.all_get Reader.all_set Reader.buf_get Reader.buf_set Reader.at__get Reader.at__set Slot.length_enc Slot.ok_enc Slot.all_get Slot.all_set Slot.bound_get Slot.bound_set Slot.name_get Slot.name_set Session.length_enc Session.ok_enc Session.all_get Session.all_set Session.svc_get Session.svc_set Session.buf_get Session.buf_set Session.closed_get Session.closed_set GProgram.length_enc GProgram.ok_enc GProgram.all_get GProgram.all_set GProgram.pool_get GProgram.pool_set GProgram.preds_get GProgram.preds_set GProgram.rules_get GProgram.rules_set GProgram.strata_get GProgram.strata_set PredInfo.length_enc PredInfo.ok_enc PredInfo.all_get PredInfo.all_set PredInfo.arity_get PredInfo.arity_set PredInfo.base_get PredInfo.base_set PredInfo.stratum_get PredInfo.stratum_set Change.length_enc Change.ok_enc Change.all_get Change.all_set Change.del_get Change.del_set Change.pred_get Change.pred_set Change.t_get Change.t_set Store.length_enc Store.ok_enc Store.all_get Store.all_set Store.names_get Store.names_set Store.arity_get Store.arity_set Store.rows_get Store.rows_set Src.length_enc Src.ok_enc Src.all_get Src.all_set Src.b_get Src.b_set Src.at__get Src.at__set Atom.length_enc Atom.ok_enc Atom.all_get Atom.all_set Atom.pred_get Atom.pred_set Atom.args_get Atom.args_set GRule.length_enc GRule.ok_enc GRule.all_get GRule.all_set GRule.head_get GRule.head_set GRule.body_get GRule.body_set GRule.head_pred_get GRule.head_pred_set GRule.head_args_get GRule.head_args_set Cert.length_enc Cert.ok_enc Cert.all_get Cert.all_set Cert.names_get Cert.names_set Cert.nodes_get Cert.nodes_set Fact.length_enc Fact.ok_enc Fact.all_get Fact.all_set Fact.pred_get Fact.pred_set Fact.t_get Fact.t_set Literal.length_enc Literal.ok_enc Literal.all_get Literal.all_set Literal.neg_get Literal.neg_set Literal.atom_get Literal.atom_set Literal.atom_pred_get Literal.atom_pred_set Literal.atom_args_get Literal.atom_args_set Engine.length_enc Engine.ok_enc Engine.all_get Engine.all_set Engine.prog_get Engine.prog_set Engine.st_get Engine.st_set SrcCertm.length_enc SrcCertm.ok_enc SrcCertm.all_get SrcCertm.all_set SrcCertm.b_get SrcCertm.b_set SrcCertm.at__get SrcCertm.at__set GNode.length_enc GNode.ok_enc GNode.all_get GNode.all_set GNode.rule_get GNode.rule_set GNode.pred_get GNode.pred_set GNode.vals_get GNode.vals_set GNode.refs_get GNode.refs_set Term.length_enc Term.ok_enc Term.all_get Term.all_set Term.var_get Term.var_set Term.n_get Term.n_set Env.length_enc Env.ok_enc Env.all_get Env.all_set Env.val_get Env.val_set Env.set_get Env.set_set
attribute [local go_sem] size_put size_ext blk_put free_put blk_alloc free_alloc blk_drew free_drew blk_ext free_ext lookOr_some putOr_some segAt_some cellAt_some storeIn_some put_put put_alloc_new length_arr ok_arr_u8 ok_arr_u32 ok_arr_u64 ok_arr_i64 ok_arr_sl cellsV_agg cellsV_int cellsV_bool cellsV_string cellsV_pointer cellsV_slice cellsV_sl ok_int ok_bool ok_string ok_pointer ok_slice ok_sl toList_arr seg_arr set_arr nth_splice nth_splice0 seg_splice seg_splice0 splice_splice splice_splice0 length_splice_if
attribute [local go_sem ↓] execOp_box
attribute [local go_sem] box_run nth_arr_u8 put_arr_u8 blk_drewN free_drewN put_drewN blk_raw free_raw

theorem bl_irr : ∀ x : List UInt8, bLt x x = false
  | [] => rfl
  | a :: x => by
    show (decide (a < a) || (a == a && Op.bytesLess x x)) = false
    have h : Op.bytesLess x x = false := bl_irr x
    rw [h]; simp
theorem bl_tot : ∀ x y : List UInt8, x ≠ y → bLt x y = true ∨ bLt y x = true
  | [], [], h => absurd rfl h
  | [], _ :: _, _ => .inl rfl
  | _ :: _, [], _ => .inr rfl
  | a :: x, b :: y, h => by
    show (decide (a < b) || (a == b && Op.bytesLess x y)) = true ∨ (decide (b < a) || (b == a && Op.bytesLess y x)) = true
    by_cases e : a = b
    · subst e
      have h2 : x ≠ y := fun e2 => h (by rw [e2])
      rcases bl_tot x y h2 with h3 | h3
      · have h3' : Op.bytesLess x y = true := h3
        rw [h3']; left; simp
      · have h3' : Op.bytesLess y x = true := h3
        rw [h3']; right; simp
    · have h4 : a.toNat ≠ b.toNat := fun e2 => e (UInt8.toNat_inj.1 e2)
      rcases (show a.toNat < b.toNat ∨ b.toNat < a.toNat from by omega) with h5 | h5
      · left
        have : decide (a < b) = true := decide_eq_true (UInt8.lt_iff_toNat_lt.2 h5)
        rw [this]; rfl
      · right
        have : decide (b < a) = true := decide_eq_true (UInt8.lt_iff_toNat_lt.2 h5)
        rw [this]; rfl
theorem bl_trans : ∀ x y z : List UInt8, bLt x y = true → bLt y z = true → bLt x z = true
  | [], [], _, h, _ => by cases h
  | [], _ :: _, [], _, h => by cases h
  | [], _ :: _, _ :: _, _, _ => rfl
  | _ :: _, [], _, h, _ => by cases h
  | _ :: _, _ :: _, [], _, h => by cases h
  | a :: x, b :: y, c :: z, h, h' => by
    have h1 : (decide (a < b) || (a == b && Op.bytesLess x y)) = true := h
    have h2 : (decide (b < c) || (b == c && Op.bytesLess y z)) = true := h'
    show (decide (a < c) || (a == c && Op.bytesLess x z)) = true
    rw [Bool.or_eq_true, Bool.and_eq_true, decide_eq_true_eq, beq_iff_eq] at h1 h2 ⊢
    rw [UInt8.lt_iff_toNat_lt] at h1 h2 ⊢
    rcases h1 with h1 | ⟨rfl, h1⟩
    · rcases h2 with h2 | ⟨rfl, h2⟩
      · exact .inl (by omega)
      · exact .inl h1
    · rcases h2 with h2 | ⟨rfl, h2⟩
      · exact .inl h2
      · exact .inr ⟨rfl, bl_trans x y z h1 h2⟩
theorem rl_irr : ∀ A : List (List UInt8), rlF A A = false
  | [] => rfl
  | x :: A => by
    show (if x ≠ x then bLt x x else rlF A A) = false
    rw [if_neg (fun h => h rfl)]; exact rl_irr A
theorem rl_tot : ∀ A B : List (List UInt8), A.length = B.length → A ≠ B → rlF A B = true ∨ rlF B A = true
  | [], [], _, h => absurd rfl h
  | [], _ :: _, h, _ => by cases h
  | _ :: _, [], h, _ => by cases h
  | x :: A, y :: B, hl, h => by
    show (if x ≠ y then bLt x y else rlF A B) = true ∨ (if y ≠ x then bLt y x else rlF B A) = true
    by_cases e : x = y
    · subst e
      rw [if_neg (fun h => h rfl), if_neg (fun h => h rfl)]
      exact rl_tot A B (by simpa using hl) (fun e2 => h (by rw [e2]))
    · rw [if_pos e, if_pos (fun e2 => e e2.symm)]
      exact bl_tot x y e
theorem rl_trans : ∀ A B C : List (List UInt8), rlF A B = true → rlF B C = true → rlF A C = true
  | [], _, _, h, _ => by cases h
  | _ :: _, [], _, h, _ => by cases h
  | _ :: _, _ :: _, [], _, h => by cases h
  | x :: A, y :: B, z :: C, h, h' => by
    have h1 : (if x ≠ y then bLt x y else rlF A B) = true := h
    have h2 : (if y ≠ z then bLt y z else rlF B C) = true := h'
    show (if x ≠ z then bLt x z else rlF A C) = true
    by_cases e : x = y
    · subst e
      rw [if_neg (fun h => h rfl)] at h1
      by_cases e2 : x = z
      · subst e2
        rw [if_neg (fun h => h rfl)] at h2 ⊢
        exact rl_trans A B C h1 h2
      · rw [if_pos e2] at h2 ⊢; exact h2
    · rw [if_pos e] at h1
      by_cases e2 : y = z
      · subst e2
        rw [if_pos e]; exact h1
      · rw [if_pos e2] at h2
        have h3 := bl_trans x y z h1 h2
        have e3 : x ≠ z := fun e4 => by rw [e4, bl_irr] at h3; cases h3
        rw [if_pos e3]; exact h3
theorem nl_trans {A B C : List (List UInt8)} (h1 : A.length = B.length) (ha : rlF B A = false) (hb : rlF C B = false) : rlF C A = false := by
  cases h : rlF C A with
  | false => rfl
  | true =>
    by_cases e : A = B
    · rw [e, hb] at h; cases h
    · rcases rl_tot A B h1 e with h3 | h3
      · rw [rl_trans C A B h h3] at hb; cases hb
      · rw [h3] at ha; cases ha
/-- Rows in ascending order. -/
def SrtP (L : List RD) : Prop := L.Pairwise fun x y => rlF y.2 x.2 = false
def LenN (n : Nat) (L : List RD) : Prop := ∀ x ∈ L, x.2.length = n
theorem mrg_srt {n : Nat} : ∀ (A B : List RD), LenN n A → LenN n B → SrtP A → SrtP B → SrtP (mrg A B)
  | [], B, _, _, _, hB => by unfold mrg; rw [List.nil_merge]; exact hB
  | a :: A, [], _, _, hA, _ => by unfold mrg; rw [List.merge_right]; exact hA
  | a :: A, b :: B, lA, lB, hA, hB => by
    unfold mrg
    rw [List.cons_merge_cons]
    obtain ⟨a1, a2⟩ := List.pairwise_cons.1 hA
    obtain ⟨b1, b2⟩ := List.pairwise_cons.1 hB
    have la := lA a List.mem_cons_self
    have lb := lB b List.mem_cons_self
    by_cases e : rdLe a b = true
    · rw [if_pos e]
      have e' : rlF b.2 a.2 = false := by unfold rdLe at e; simpa using e
      refine List.pairwise_cons.2 ⟨fun y hy => ?_, mrg_srt A (b :: B) (fun x hx => lA x (List.mem_cons_of_mem _ hx)) lB a2 hB⟩
      rcases List.mem_merge.1 hy with h | h
      · exact a1 y h
      · rcases List.mem_cons.1 h with h | h
        · rw [h]; exact e'
        · exact nl_trans (by rw [la, lb]) e' (b1 y h)
    · rw [if_neg e]
      have e2 : rlF b.2 a.2 = true := by unfold rdLe at e; simpa using e
      have e' : rlF a.2 b.2 = false := by
        cases h : rlF a.2 b.2 with
        | false => rfl
        | true => have := rl_trans _ _ _ h e2; rw [rl_irr] at this; cases this
      refine List.pairwise_cons.2 ⟨fun y hy => ?_, mrg_srt (a :: A) B lA (fun x hx => lB x (List.mem_cons_of_mem _ hx)) hA b2⟩
      rcases List.mem_merge.1 hy with h | h
      · rcases List.mem_cons.1 h with h | h
        · rw [h]; exact e'
        · exact nl_trans (by rw [la, lb]) e' (a1 y h)
      · exact b1 y h
termination_by A B => A.length + B.length
theorem mrg_perm (A B : List RD) : (mrg A B).Perm (A ++ B) := List.merge_perm_append _
/-- Runs of width w in ascending order. -/
def RunS (w : Nat) (L : List RD) : Prop := ∀ k, SrtP ((L.drop (k * w)).take w)
theorem pasN_perm : ∀ (m w : Nat) (L : List RD), 1 ≤ w → L.length ≤ m → (pasN m w L).Perm L
  | 0, w, L, _, h => by
    have : L = [] := List.eq_nil_of_length_eq_zero (by omega)
    subst this; exact List.Perm.refl _
  | m + 1, w, L, hw, h => by
    unfold pasN
    by_cases e : L = []
    · rw [if_pos e, e]
    · rw [if_neg e]
      have hl : 0 < L.length := List.length_pos_iff.2 e
      have ih := pasN_perm m w (L.drop (2 * w)) hw (by rw [List.length_drop]; omega)
      have h1 := (mrg_perm (L.take w) ((L.drop w).take w)).append ih
      have h2 : L.take w ++ (L.drop w).take w ++ L.drop (2 * w) = L := by
        rw [List.append_assoc]
        have h3 : (L.drop w).take w ++ L.drop (2 * w) = L.drop w := by
          have h4 := List.take_append_drop w (L.drop w)
          rw [List.drop_drop, show w + w = 2 * w from by omega] at h4
          exact h4
        rw [h3, List.take_append_drop]
      rw [h2] at h1; exact h1
theorem pasN_run {n : Nat} : ∀ (m w : Nat) (L : List RD), 1 ≤ w → L.length ≤ m → LenN n L → RunS w L → RunS (2 * w) (pasN m w L)
  | 0, w, L, _, h, _, _ => fun k => by
    show SrtP ((([] : List RD).drop _).take _)
    rw [List.drop_nil, List.take_nil]; exact List.Pairwise.nil
  | m + 1, w, L, hw, h, hn, hr => by
    unfold pasN
    by_cases e : L = []
    · rw [if_pos e]
      intro k
      rw [List.drop_nil, List.take_nil]; exact List.Pairwise.nil
    · rw [if_neg e]
      have hl : 0 < L.length := List.length_pos_iff.2 e
      have hr' : RunS w (L.drop (2 * w)) := fun k => by
        have := hr (k + 2)
        rw [List.drop_drop, show 2 * w + k * w = (k + 2) * w from by rw [Nat.add_mul]; omega]
        exact this
      have ih := pasN_run m w (L.drop (2 * w)) hw (by rw [List.length_drop]; omega) (fun x hx => hn x (List.mem_of_mem_drop hx)) hr'
      have hpl := pasN_len m w (L.drop (2 * w)) hw (by rw [List.length_drop]; omega)
      obtain ⟨rest, er⟩ : ∃ rest, rest = pasN m w (L.drop (2 * w)) := ⟨_, rfl⟩
      rw [← er] at ih hpl ⊢
      have hM : SrtP (mrg (L.take w) ((L.drop w).take w)) := mrg_srt (n := n) _ _ (fun x hx => hn x (List.mem_of_mem_take hx)) (fun x hx => hn x (List.mem_of_mem_drop (List.mem_of_mem_take hx))) (by have := hr 0; rw [Nat.zero_mul, List.drop_zero] at this; exact this) (by have := hr 1; rw [Nat.one_mul] at this; exact this)
      have hMl : (mrg (L.take w) ((L.drop w).take w)).length = min (2 * w) L.length := by
        rw [(mrg_perm _ _).length_eq, List.length_append, List.length_take, List.length_take, List.length_drop]
        omega
      obtain ⟨M, eM⟩ : ∃ M, M = mrg (L.take w) ((L.drop w).take w) := ⟨_, rfl⟩
      rw [← eM] at hM hMl ⊢
      rw [List.length_drop] at hpl
      by_cases hbig : 2 * w ≤ L.length
      · have hMl' : M.length = 2 * w := by omega
        intro k
        cases k with
        | zero =>
          rw [Nat.zero_mul, List.drop_zero, List.take_append_of_le_length (by omega), List.take_of_length_le (by omega)]
          exact hM
        | succ k =>
          rw [show (k + 1) * (2 * w) = M.length + k * (2 * w) from by rw [hMl', Nat.add_mul]; omega, List.drop_length_add_append]
          exact ih k
      · have hrest : rest = [] := List.eq_nil_of_length_eq_zero (by omega)
        rw [hrest, List.append_nil]
        intro k
        cases k with
        | zero =>
          rw [Nat.zero_mul, List.drop_zero, List.take_of_length_le (by omega)]
          exact hM
        | succ k =>
          rw [List.drop_eq_nil_of_le (by rw [Nat.add_mul]; omega), List.take_nil]
          exact List.Pairwise.nil
theorem srtN_ok {n : Nat} : ∀ (m w : Nat) (L : List RD), 1 ≤ w → L.length ≤ w + m → LenN n L → RunS w L → (srtN m w L).Perm L ∧ SrtP (srtN m w L)
  | 0, w, L, hw, h, hn, hr => by
    have h1 := hr 0
    rw [Nat.zero_mul, List.drop_zero, List.take_of_length_le (by omega)] at h1
    exact ⟨List.Perm.refl _, h1⟩
  | m + 1, w, L, hw, h, hn, hr => by
    unfold srtN
    by_cases e : w < L.length
    · rw [if_pos e]
      have hp := pasN_perm L.length w L hw (Nat.le_refl _)
      have hn' : LenN n (pasF w L) := fun x hx => hn x (hp.mem_iff.1 hx)
      obtain ⟨h1, h2⟩ := srtN_ok m (2 * w) (pasF w L) (by omega) (by have := hp.length_eq; unfold pasF; omega) hn' (pasN_run L.length w L hw (Nat.le_refl _) hn hr)
      exact ⟨h1.trans hp, h2⟩
    · rw [if_neg e]
      have h1 := hr 0
      rw [Nat.zero_mul, List.drop_zero, List.take_of_length_le (by omega)] at h1
      exact ⟨List.Perm.refl _, h1⟩
theorem srtF_ok {n : Nat} {L : List RD} (hn : LenN n L) : (srtF L).Perm L ∧ SrtP (srtF L) := by
  unfold srtF
  refine srtN_ok L.length 1 L (Nat.le_refl _) (by omega) hn (fun k => ?_)
  cases h : (L.drop (k * 1)).take 1 with
  | nil => exact List.Pairwise.nil
  | cons x l =>
    have h1 : ((L.drop (k * 1)).take 1).length ≤ 1 := by rw [List.length_take]; omega
    rw [h, List.length_cons] at h1
    have h2 : l = [] := List.eq_nil_of_length_eq_zero (by omega)
    rw [h2]; exact List.pairwise_singleton _ _
theorem zinsT_ok {n : Nat} (x : RD) (hx : x.2.length = n) : ∀ (L : List RD), LenN n L → L.Pairwise (fun a b => rlF a.2 b.2 = false) → (zinsT x L).Perm (x :: L) ∧ (zinsT x L).Pairwise (fun a b => rlF a.2 b.2 = false)
  | [], _, _ => ⟨List.Perm.refl _, List.pairwise_singleton _ _⟩
  | y :: L, hn, hp => by
    obtain ⟨p1, p2⟩ := List.pairwise_cons.1 hp
    unfold zinsT
    by_cases e : rlF x.2 y.2 = true
    · rw [if_pos e]
      obtain ⟨i1, i2⟩ := zinsT_ok x hx L (fun z hz => hn z (List.mem_cons_of_mem _ hz)) p2
      refine ⟨(i1.cons y).trans (List.Perm.swap x y L), List.pairwise_cons.2 ⟨fun z hz => ?_, i2⟩⟩
      rcases List.mem_cons.1 (i1.mem_iff.1 hz) with h | h
      · rw [h]
        cases h9 : rlF y.2 x.2 with
        | false => rfl
        | true => have := rl_trans _ _ _ h9 e; rw [rl_irr] at this; cases this
      · exact p1 z h
    · rw [if_neg e]
      have e' : rlF x.2 y.2 = false := by simpa using e
      refine ⟨List.Perm.refl _, List.pairwise_cons.2 ⟨fun z hz => ?_, hp⟩⟩
      rcases List.mem_cons.1 hz with h | h
      · rw [h]; exact e'
      · have hz2 := hn z hz
        have hy := hn y List.mem_cons_self
        exact nl_trans (A := z.2) (B := y.2) (C := x.2) (by rw [hz2, hy]) (p1 z h) e'
theorem zinsP_ok {n : Nat} {x : RD} (hx : x.2.length = n) {A : List RD} (hn : LenN n A) (hs : SrtP A) : (zinsP A x).Perm (A ++ [x]) ∧ SrtP (zinsP A x) := by
  have h1 : A.reverse.Pairwise (fun a b => rlF a.2 b.2 = false) := List.pairwise_reverse.2 hs
  obtain ⟨i1, i2⟩ := zinsT_ok x hx A.reverse (fun z hz => hn z (List.mem_reverse.1 hz)) h1
  unfold zinsP
  refine ⟨((List.reverse_perm _).trans i1).trans ?_, List.pairwise_reverse.2 i2⟩
  exact ((List.reverse_perm A).cons x).trans (List.perm_append_comm (l₁ := [x]) (l₂ := A))
theorem zisF_ok {n : Nat} : ∀ (L A : List RD), LenN n L → LenN n A → SrtP A → (L.foldl zinsP A).Perm (A ++ L) ∧ SrtP (L.foldl zinsP A)
  | [], A, _, _, hs => ⟨by rw [List.append_nil]; exact List.Perm.refl _, hs⟩
  | x :: L, A, hL, hA, hs => by
    obtain ⟨i1, i2⟩ := zinsP_ok (hL x List.mem_cons_self) hA hs
    obtain ⟨j1, j2⟩ := zisF_ok L (zinsP A x) (fun z hz => hL z (List.mem_cons_of_mem _ hz)) (fun z hz => by
      rcases List.mem_append.1 (i1.mem_iff.1 hz) with h | h
      · exact hA z h
      · rw [List.mem_singleton.1 h]; exact hL x List.mem_cons_self) i2
    rw [List.foldl_cons]
    refine ⟨j1.trans ?_, j2⟩
    have := i1.append_right L
    rw [List.append_assoc] at this
    exact this
/-- Two ways to sort the same rows. -/
theorem srt_same {n : Nat} {A B : List NRow} (hA : ∀ r ∈ A, r.length = n) (hB : ∀ r ∈ B, r.length = n) (nA : A.Nodup) (nB : B.Nodup) (hm : ∀ r, r ∈ A ↔ r ∈ B) : srtR A = zsR B := by
  unfold srtR zsR
  have lA : LenN n (A.map fun r => ((⟨none, 0, 0⟩ : Sl), r)) := fun x hx => by
    obtain ⟨r, hr, rfl⟩ := List.mem_map.1 hx
    exact hA r hr
  have lB : LenN n (B.map fun r => ((⟨none, 0, 0⟩ : Sl), r)) := fun x hx => by
    obtain ⟨r, hr, rfl⟩ := List.mem_map.1 hx
    exact hB r hr
  obtain ⟨a1, a2⟩ := srtF_ok lA
  obtain ⟨b1, b2⟩ := zisF_ok (n := n) _ [] lB (fun x hx => by cases hx) List.Pairwise.nil
  rw [List.nil_append] at b1
  have eA : (A.map fun r => ((⟨none, 0, 0⟩ : Sl), r)).map (·.2) = A := by rw [List.map_map]; exact List.map_id'' (fun _ => rfl) A
  have eB : (B.map fun r => ((⟨none, 0, 0⟩ : Sl), r)).map (·.2) = B := by rw [List.map_map]; exact List.map_id'' (fun _ => rfl) B
  have pA : ((srtF (A.map fun r => ((⟨none, 0, 0⟩ : Sl), r))).map (·.2)).Perm A := by
    have := a1.map (·.2)
    rw [eA] at this; exact this
  have pB : ((zisF (B.map fun r => ((⟨none, 0, 0⟩ : Sl), r))).map (·.2)).Perm B := by
    have := b1.map (·.2)
    rw [eB] at this; exact this
  have pAB : A.Perm B := (List.perm_ext_iff_of_nodup nA nB).2 hm
  refine List.Perm.eq_of_pairwise (le := fun x y => rlF y x = false) (fun a b ha hb h1 h2 => ?_) (List.pairwise_map.2 a2) (List.pairwise_map.2 b2) ((pA.trans pAB).trans pB.symm)
  apply Classical.byContradiction
  intro e
  rcases rl_tot a b (by rw [hA a (pA.mem_iff.1 ha), hB b (pB.mem_iff.1 hb)]) e with h | h
  · rw [h] at h2; cases h2
  · rw [h] at h1; cases h1
end Go.Proofs.Qxb6500787aGreat
