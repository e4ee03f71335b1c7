
import Derived.Test.Qxb6500787aGreatTa
import Derived.StillTailTactics
import Derived.Deep.QuietTactic
import Derived.BigQuiet
import Derived.Deep.RegionHeld
import Derived.Deep.CutRange
import Derived.Laws.ResultCell
import Derived.Laws.Rows
import Derived.DeepKeys
import Derived.DataBytes
import Derived.Laws.StructEq
import Derived.Laws.AppendOwn
import Derived.Laws.MakeOwn
import Derived.Lib.AppendStr
set_option linter.unusedSimpArgs false
set_option linter.unusedVariables false
namespace Go.Proofs.Qxb6500787aGreat
open Go.RowKit Go.Blk
attribute [local go_sem ↓] execOp_load execOp_store execOp_alloc
attribute [local go_sem] Tryz.ld26 Tryz.st26 Tryz.ld27 Tryz.st27 Tryz.ld28 Tryz.st28 Tryz.ld3 Tryz.st3 Tryz.ld29 Tryz.st29 Tryz.ld44 Tryz.st44 Tryz.ld4 Tryz.st4 Tryz.ld50 Tryz.st50 Tryz.ld32 Tryz.st32 Tryz.ld49 Tryz.st49 Tryz.ld68 Tryz.st68 Tryz.ld9 Tryz.st9 Tryz.ld40 Tryz.st40 Tryz.ld138 Tryz.st138 Tryz.ld139 Tryz.st139 Tryz.ld146 Tryz.st146 Tryz.ld183 Tryz.st183 Tryz.ld184 Tryz.st184 Tryz.ld192 Tryz.st192 Tryz.ld195 Tryz.st195 Tryz.ld217 Tryz.st217 Tryz.ld159 Tryz.st159 Tryz.ld142 Tryz.st142 Tryz.ld2 Tryz.st2 Tryz.ld5 Tryz.st5 Tryz.ld12 Tryz.st12 Tryz.ld21 Tryz.st21 Tryz.ld22 Tryz.st22 Tryz.ld24 Tryz.st24 Tryz.ld58 Tryz.st58 Tryz.ld97 Tryz.st97 Tryz.ld101 Tryz.st101 Tryz.ld116 Tryz.st116 Tryz.ld121 Tryz.st121 Tryz.ld135 Tryz.st135 Tryz.ld136 Tryz.st136 Tryz.ld143 Tryz.st143 Tryz.ld148 Tryz.st148 Tryz.ld154 Tryz.st154 Tryz.ld173 Tryz.st173 Tryz.ld187 Tryz.st187 Tryz.ld222 Tryz.st222 Tryz.ld241 Tryz.st241 Tryz.ld248 Tryz.st248 Tryz.ld268 Tryz.st268 Tryz.ld272 Tryz.st272 Tryz.ld153 Tryz.st153 Tryz.ld255 Tryz.st255 Tryz.ld256 Tryz.st256 Tryz.ld129 Tryz.st129 Tryz.ld152 Tryz.st152 Tryz.ld31 Tryz.st31 Tryz.ld46 Tryz.st46 Tryz.ld52 Tryz.st52 Tryz.ld54 Tryz.st54 Tryz.ld60 Tryz.st60 Tryz.ld70 Tryz.st70 Tryz.ld74 Tryz.st74 Tryz.ld93 Tryz.st93 Tryz.ld141 Tryz.st141 Tryz.ld151 Tryz.st151 Tryz.ld170 Tryz.st170 Tryz.ld186 Tryz.st186 Tryz.ld189 Tryz.st189 Tryz.ld194 Tryz.st194 Tryz.ld197 Tryz.st197 Tryz.ld219 Tryz.st219 Tryz.ld224 Tryz.st224 Tryz.ld230 Tryz.st230 Tryz.ld235 Tryz.st235 Tryz.ld243 Tryz.st243 Tryz.ld247 Tryz.st247 Tryz.ld252 Tryz.st252 Tryz.ld258 Tryz.st258 Tryz.al153 Tryz.al255 Tryz.al256 Tryz.al129 Tryz.al152 Tryz.al31 Tryz.al46 Tryz.al52 Tryz.al54 Tryz.al60 Tryz.al70 Tryz.al74 Tryz.al93 Tryz.al141 Tryz.al151 Tryz.al170 Tryz.al186 Tryz.al189 Tryz.al194 Tryz.al197 Tryz.al219 Tryz.al224 Tryz.al230 Tryz.al235 Tryz.al243 Tryz.al247 Tryz.al252 Tryz.al258
attribute [local go_sem] Request.length_enc Request.ok_enc Request.all_get Request.all_set Request.kind_get Request.kind_set Request.blob_get Request.blob_set Request.items_get Request.items_set Request.pred_get Request.pred_set Request.slots_get Request.slots_set Trace.length_enc Trace.ok_enc Trace.all_get Trace.all_set Trace.op_get Trace.op_set Trace.calls_get Trace.calls_set Item.length_enc Item.ok_enc Item.all_get Item.all_set Item.del_get Item.del_set Item.pred_get Item.pred_set Item.args_get Item.args_set Reply.length_enc Reply.ok_enc Reply.all_get Reply.all_set Reply.code_get Reply.code_set Reply.kind_get Reply.kind_set Reply.index_get Reply.index_set Reply.yes_get Reply.yes_set Reply.preds_get Reply.preds_set Reply.rules_get Reply.rules_set Reply.arity_get Reply.arity_set Reply.rows_get Reply.rows_set Reply.fact_get Reply.fact_set Reply.fact_del_get Reply.fact_del_set Reply.fact_pred_get Reply.fact_pred_set Reply.fact_args_get Reply.fact_args_set GEntry.length_enc GEntry.ok_enc GEntry.all_get GEntry.all_set GEntry.seq_get GEntry.seq_set GEntry.kind_get GEntry.kind_set GEntry.code_get GEntry.code_set GOp.length_enc GOp.ok_enc GOp.all_get GOp.all_set GOp.kind_get GOp.kind_set GOp.raw_get GOp.raw_set Reader.length_enc Reader.ok_enc Reader.all_get Reader.all_set Reader.buf_get Reader.buf_set Reader.at__get Reader.at__set Slot.length_enc Slot.ok_enc Slot.all_get Slot.all_set Slot.bound_get Slot.bound_set Slot.name_get Slot.name_set Session.length_enc Session.ok_enc Session.all_get Session.all_set Session.svc_get Session.svc_set Session.buf_get Session.buf_set Session.closed_get Session.closed_set GProgram.length_enc GProgram.ok_enc GProgram.all_get GProgram.all_set GProgram.pool_get GProgram.pool_set GProgram.preds_get GProgram.preds_set GProgram.rules_get GProgram.rules_set GProgram.strata_get GProgram.strata_set PredInfo.length_enc PredInfo.ok_enc PredInfo.all_get PredInfo.all_set PredInfo.arity_get PredInfo.arity_set PredInfo.base_get PredInfo.base_set PredInfo.stratum_get PredInfo.stratum_set Change.length_enc Change.ok_enc Change.all_get Change.all_set Change.del_get Change.del_set Change.pred_get Change.pred_set Change.t_get Change.t_set Store.length_enc Store.ok_enc Store.all_get Store.all_set Store.names_get Store.names_set Store.arity_get Store.arity_set Store.rows_get Store.rows_set Src.length_enc Src.ok_enc Src.all_get Src.all_set Src.b_get Src.b_set Src.at__get Src.at__set Atom.length_enc Atom.ok_enc Atom.all_get Atom.all_set Atom.pred_get Atom.pred_set Atom.args_get Atom.args_set GRule.length_enc GRule.ok_enc GRule.all_get GRule.all_set GRule.head_get GRule.head_set GRule.body_get GRule.body_set GRule.head_pred_get GRule.head_pred_set GRule.head_args_get GRule.head_args_set Cert.length_enc Cert.ok_enc Cert.all_get Cert.all_set Cert.names_get Cert.names_set Cert.nodes_get Cert.nodes_set Fact.length_enc Fact.ok_enc Fact.all_get Fact.all_set Fact.pred_get Fact.pred_set Fact.t_get Fact.t_set Literal.length_enc Literal.ok_enc Literal.all_get Literal.all_set Literal.neg_get Literal.neg_set Literal.atom_get Literal.atom_set Literal.atom_pred_get Literal.atom_pred_set Literal.atom_args_get Literal.atom_args_set Engine.length_enc Engine.ok_enc Engine.all_get Engine.all_set Engine.prog_get Engine.prog_set Engine.st_get Engine.st_set SrcCertm.length_enc SrcCertm.ok_enc SrcCertm.all_get SrcCertm.all_set SrcCertm.b_get SrcCertm.b_set SrcCertm.at__get SrcCertm.at__set GNode.length_enc GNode.ok_enc GNode.all_get GNode.all_set GNode.rule_get GNode.rule_set GNode.pred_get GNode.pred_set GNode.vals_get GNode.vals_set GNode.refs_get GNode.refs_set Term.length_enc Term.ok_enc Term.all_get Term.all_set Term.var_get Term.var_set Term.n_get Term.n_set Env.length_enc Env.ok_enc Env.all_get Env.all_set Env.val_get Env.val_set Env.set_get Env.set_set
attribute [local go_sem] size_put size_ext blk_put free_put blk_alloc free_alloc blk_drew free_drew blk_ext free_ext lookOr_some putOr_some segAt_some cellAt_some storeIn_some put_put put_alloc_new length_arr ok_arr_u8 ok_arr_u32 ok_arr_u64 ok_arr_i64 ok_arr_sl cellsV_agg cellsV_int cellsV_bool cellsV_string cellsV_pointer cellsV_slice cellsV_sl ok_int ok_bool ok_string ok_pointer ok_slice ok_sl toList_arr seg_arr set_arr nth_splice nth_splice0 seg_splice seg_splice0 splice_splice splice_splice0 length_splice_if
attribute [local go_sem ↓] execOp_box
attribute [local go_sem] box_run nth_arr_u8 put_arr_u8 blk_drewN free_drewN put_drewN blk_raw free_raw
/-- The number of a name, or -1. -/
def lookF : List (List UInt8) → List UInt8 → Int
  | [], _ => -1
  | x :: N, nm => if x = nm then 0 else if lookF N nm = -1 then -1 else lookF N nm + 1
theorem lookF_ge (N : List (List UInt8)) (nm : List UInt8) : -1 ≤ lookF N nm := by
  induction N with
  | nil => exact Int.le_refl _
  | cons x N ih =>
    unfold lookF
    split
    · omega
    · split <;> omega
theorem lookF_at : ∀ {N : List (List UInt8)} {nm : List UInt8} {i : Nat}, N[i]? = some nm → (∀ j, j < i → ∀ x, N[j]? = some x → x ≠ nm) → lookF N nm = (i : Int)
  | [], nm, i, h, _ => by cases h
  | x :: N, nm, 0, h, _ => by
    have : x = nm := Option.some.inj h
    unfold lookF
    rw [if_pos this]; rfl
  | x :: N, nm, i + 1, h, hj => by
    have hx : x ≠ nm := hj 0 (by omega) x rfl
    have ih := lookF_at (N := N) (nm := nm) (i := i) h (fun j hji y hy => hj (j + 1) (by omega) y hy)
    unfold lookF
    rw [if_neg hx, ih, if_neg (by omega)]
    omega
theorem lookF_no : ∀ {N : List (List UInt8)} {nm : List UInt8}, (∀ (j : Nat) x, N[j]? = some x → x ≠ nm) → lookF N nm = -1
  | [], nm, _ => rfl
  | x :: N, nm, hj => by
    have hx : x ≠ nm := hj 0 x rfl
    have ih := lookF_no (N := N) (nm := nm) (fun j y hy => hj (j + 1) y hy)
    unfold lookF
    rw [if_neg hx, ih, if_pos rfl]
theorem lookF_get : ∀ {N : List (List UInt8)} {nm : List UInt8}, lookF N nm ≠ -1 → ∃ i : Nat, lookF N nm = (i : Int) ∧ N[i]? = some nm
  | [], nm, h => absurd rfl h
  | x :: N, nm, h => by
    unfold lookF at h ⊢
    by_cases hx : x = nm
    · rw [if_pos hx]; exact ⟨0, rfl, by rw [hx]; rfl⟩
    · rw [if_neg hx] at h ⊢
      by_cases h1 : lookF N nm = -1
      · rw [if_pos h1] at h; exact absurd rfl h
      · rw [if_neg h1]
        obtain ⟨i, e, hi⟩ := lookF_get h1
        exact ⟨i + 1, by rw [e]; omega, hi⟩
def encZ (v : Int) : List Value := [.int .i64 v]
def encD1 (d : Sl) : List Value := [Sl.val d]
theorem encZ_len (v : Int) : (encZ v).length = 1 := rfl
theorem encD1_len (d : Sl) : (encD1 d).length = 1 := rfl
def stE (na : Option Addr) (nn nc : Nat) (aa : Option Addr) (an ac : Nat) (ra : Option Addr) (rn rc : Nat) : List Value := Store.enc ⟨⟨na, nn, nc⟩, ⟨aa, an, ac⟩, ⟨ra, rn, rc⟩⟩
theorem st_len (na : Option Addr) (nn nc : Nat) (aa : Option Addr) (an ac : Nat) (ra : Option Addr) (rn rc : Nat) : (stE na nn nc aa an ac ra rn rc).length = 3 := rfl
theorem st0 (na : Option Addr) (nn nc : Nat) (aa : Option Addr) (an ac : Nat) (ra : Option Addr) (rn rc : Nat) : nth (stE na nn nc aa an ac ra rn rc) 0 = some (.slice na nn nc) := rfl
theorem st1 (na : Option Addr) (nn nc : Nat) (aa : Option Addr) (an ac : Nat) (ra : Option Addr) (rn rc : Nat) : nth (stE na nn nc aa an ac ra rn rc) 1 = some (.slice aa an ac) := rfl
theorem st2 (na : Option Addr) (nn nc : Nat) (aa : Option Addr) (an ac : Nat) (ra : Option Addr) (rn rc : Nat) : nth (stE na nn nc aa an ac ra rn rc) 2 = some (.slice ra rn rc) := rfl
theorem sts0 (na : Option Addr) (nn nc : Nat) (aa : Option Addr) (an ac : Nat) (ra : Option Addr) (rn rc : Nat) (a : Option Addr) (n c : Nat) : splice (stE na nn nc aa an ac ra rn rc) 0 [.slice a n c] = stE a n c aa an ac ra rn rc := rfl
theorem sts1 (na : Option Addr) (nn nc : Nat) (aa : Option Addr) (an ac : Nat) (ra : Option Addr) (rn rc : Nat) (a : Option Addr) (n c : Nat) : splice (stE na nn nc aa an ac ra rn rc) 1 [.slice a n c] = stE na nn nc a n c ra rn rc := rfl
theorem sts2 (na : Option Addr) (nn nc : Nat) (aa : Option Addr) (an ac : Nat) (ra : Option Addr) (rn rc : Nat) (a : Option Addr) (n c : Nat) : splice (stE na nn nc aa an ac ra rn rc) 2 [.slice a n c] = stE na nn nc aa an ac a n c := rfl
abbrev isS (g : Nat) (l : Lab) : Prop := ∃ j, l = .a (2 * g + 2) j
theorem isS_no (g : Nat) : ¬ isS g .no := by rintro ⟨j, e⟩; cases e
/-- The store in memory. -/
structure SAt (B : Nat) (O : Own) (W : World) (g bst : Nat) (N : List (List UInt8)) (A : List Int) (R : List (List Tup)) (na : Option Addr) (nn nc : Nat) (aa : Option Addr) (an ac : Nat) (ra : Option Addr) (rn rc : Nat) (Ds : List Sl) : Prop where
  cell : blk W bst = some (stE na nn nc aa an ac ra rn rc)
  fre : free W bst = true
  own : O bst = .a (2 * g + 2) 0
  low : B ≤ bst
  nm : RowL B O (.a (2 * g + 2) 1) W 9 1 (.slice na nn nc) N.length (N.flatMap encS)
  ar : RowL B O (.a (2 * g + 2) 2) W 3 1 (.slice aa an ac) A.length (A.flatMap encZ)
  rw : RowL B O (.a (2 * g + 2) 3) W 257 1 (.slice ra rn rc) Ds.length (Ds.flatMap encD1)
  dl : Ds.length = R.length
  dr : ∀ (i : Nat) (d : Sl) (L : List Tup), Ds[i]? = some d → R[i]? = some L → Rw tpl 4 (core O W) d.a d.len L
def Sto (B : Nat) (O : Own) (W : World) (g bst : Nat) (N : List (List UInt8)) (A : List Int) (R : List (List Tup)) : Prop := ∃ na nn nc aa an ac ra rn rc Ds, SAt B O W g bst N A R na nn nc aa an ac ra rn rc Ds
theorem SAt.fr {L : Lab → Prop} {B : Nat} {O O' : Own} {W W' : World} {g bst : Nat} {N : List (List UInt8)} {A : List Int} {R : List (List Tup)} {na : Option Addr} {nn nc : Nat} {aa : Option Addr} {an ac : Nat} {ra : Option Addr} {rn rc : Nat} {Ds : List Sl} (h : SAt B O W g bst N A R na nn nc aa an ac ra rn rc Ds) (hf : Fr L O W O' W') (hl : ∀ j, ¬ L (.a (2 * g + 2) j)) (hn : ¬ L .no) : SAt B O' W' g bst N A R na nn nc aa an ac ra rn rc Ds :=
  ⟨hf.blk h.cell (by rw [h.own]; exact hl 0), hf.free h.cell h.fre (by rw [h.own]; exact hl 0), (hf.keep _ (blk_lt h.cell)).trans h.own, h.low, h.nm.fr hf (hl 1), h.ar.fr hf (hl 2), h.rw.fr hf (hl 3), h.dl, fun i d L hd hL => (h.dr i d L hd hL).sub (Sub.ext (core_fr hf hn))⟩
theorem Sto.fr {L : Lab → Prop} {B : Nat} {O O' : Own} {W W' : World} {g bst : Nat} {N : List (List UInt8)} {A : List Int} {R : List (List Tup)} (h : Sto B O W g bst N A R) (hf : Fr L O W O' W') (hl : ∀ j, ¬ L (.a (2 * g + 2) j)) (hn : ¬ L .no) : Sto B O' W' g bst N A R := by
  obtain ⟨na, nn, nc, aa, an, ac, ra, rn, rc, Ds, h⟩ := h
  exact ⟨na, nn, nc, aa, an, ac, ra, rn, rc, Ds, h.fr hf hl hn⟩
theorem Sto.ext {B : Nat} {O : Own} {W W' : World} {g bst : Nat} {N : List (List UInt8)} {A : List Int} {R : List (List Tup)} (h : Sto B O W g bst N A R) (he : W.Extends W') : Sto B O W' g bst N A R := h.fr (Fr.of_extends (L := fun _ => False) he) (fun _ h => h) (fun h => h)
theorem Sto.new {B : Nat} {O : Own} {W W' : World} {g bst : Nat} {N : List (List UInt8)} {A : List Int} {R : List (List Tup)} (h : Sto B O W g bst N A R) (he : W.Extends W') : Sto B (lab O W.heap.size .no) W' g bst N A R := h.fr (Fr.grow (L := fun _ => False) he) (fun _ h => h) (fun h => h)
theorem str_at {W : World} {a : Option Addr} {n : Nat} {N : List (List UInt8)} (h : Rw encS 1 W a n N) {i : Nat} {x : List UInt8} (hx : N[i]? = some x) : ∃ b C, a = some ⟨b, 0, none⟩ ∧ blk W b = some C ∧ i < C.length ∧ nth C i = some (.string ⟨x.toArray⟩) := by
  obtain ⟨b, C, h1, h2, h3, h4⟩ := h.2 i x hx
  have hi := (List.getElem?_eq_some_iff.1 hx).1
  rw [h.1] at hi
  rw [Nat.mul_one] at h3 h4
  exact ⟨b, C, h1, h2, by omega, nth_in (j := 0) h4 rfl (by omega)⟩
theorem str_ne {x y : List UInt8} (h : x ≠ y) : ¬ ((⟨x.toArray⟩ : ByteArray) = ⟨y.toArray⟩) := fun e => h (by
  have : x.toArray = y.toArray := congrArg ByteArray.data e
  simpa using this)
theorem str_beq {x y : List UInt8} (h : x ≠ y) : (x == y) = false := by
  cases hb : (x == y) with
  | false => rfl
  | true => exact absurd (eq_of_beq hb) h
attribute [local go_sem] st_len st0 st1 st2 sts0 sts1 sts2
def lkI (W : World) (bst : Nat) (nm : List UInt8) (N : List (List UInt8)) (f : Nat → Value) (V : World) : Prop := f 0 = .pointer (some ⟨bst, 0, none⟩) ∧ f 1 = .string ⟨nm.toArray⟩ ∧ Hid (∃ W', W' = W ∧ V = W') ∧ ∃ i : Nat, i ≤ N.length ∧ f 5 = .int .i64 (i : Nat) ∧ Hid (∀ j, j < i → ∀ x, N[j]? = some x → x ≠ nm)
set_option maxRecDepth 100000 in
theorem frame25k (f : Nat → Value) : frameN 25 f = #[f 0, f 1, f 2, f 3, f 4, f 5, f 6, f 7, f 8, f 9, f 10, f 11, f 12, f 13, f 14, f 15, f 16, f 17, f 18, f 19, f 20, f 21, f 22, f 23, f 24] := by kernel_rfl
set_option maxRecDepth 20000 in
set_option maxHeartbeats 1000000 in
theorem lookup_any {B : Nat} {O : Own} {W : World} {g bst : Nat} {N : List (List UInt8)} {A : List Int} {R : List (List Tup)} (h : Sto B O W g bst N A R) (hN : N.length ≤ 100000) (nm : List UInt8) : Calls Tryz.prog 142 #[.pointer (some ⟨bst, 0, none⟩), .string ⟨nm.toArray⟩] W fun e V => e = .returned (.int .i64 (lookF N nm)) ∧ V = W := by
  obtain ⟨Q, hQ⟩ : ∃ Q, Q = (fun e V => e = .returned (.int .i64 (lookF N nm)) ∧ V = W : Ending → World → Prop) := ⟨_, rfl⟩
  rw [← hQ]
  have HQ := hid_of hQ
  obtain ⟨na, nn, nc, aa, an, ac, ra, rn, rc, Ds, hs⟩ := h
  have hc := hs.cell
  have hnm := (hs.nm.rw encS_len).1
  have hnn : N.length = nn := hnm.1
  subst hnn
  have HNM := hid_of hnm
  clear hQ hs hnm
  go_enter Tryz.func142, Tryz.ntmps142
  go_upto_region 2 with fail
  refine wp_loop_f 25 (lkI W bst nm N) (fun f _ => N.length - (intOf (f 5)).toNat) rfl ⟨rfl, rfl, ⟨_, rfl, rfl⟩, 0, by omega, rfl, fun j hj => absurd hj (Nat.not_lt_zero _)⟩ ?_
  intro F V hrel
  obtain ⟨f0, f1, HW, i, hi, f5, HI⟩ := hrel
  have H5 := hid_of f5
  rw [frame25k, f0, f1, f5]
  clear f0 f1 f5
  obtain ⟨W', rfl, rfl⟩ := HW.out
  clear HW
  by_cases hin : i < N.length
  · have hin' : (i : Int) < (N.length : Int) := by omega
    obtain ⟨x, hx⟩ : ∃ x, N[i]? = some x := ⟨_, List.getElem?_eq_getElem hin⟩
    obtain ⟨bn, Cn, rfl, g1, g2, g3⟩ := str_at HNM.out hx
    have i0 : (0 : Int) ≤ (i : Int) := by omega
    have i2 : ((i : Int)).toNat = i := by omega
    by_cases hxn : x = nm
    · subst hxn
      have HP : Hid (Q (.returned (.int .i64 (i : Int))) V) := by
        show Q _ _
        rw [HQ.out, lookF_at hx HI.out]; exact ⟨rfl, rfl⟩
      clear HI
      go_wp2_with fail
      try go_ret
      exact HP.out
    · have hne := str_ne hxn
      have hd1 : (x == nm) = false := str_beq hxn
      have HI' : Hid (∀ j, j < i + 1 → ∀ x, N[j]? = some x → x ≠ nm) := by
        intro j hj y hy
        by_cases hji : j = i
        · subst hji
          rw [hx] at hy
          rw [← Option.some.inj hy]; exact hxn
        · exact HI.out j (by omega) y hy
      clear HI hxn hx
      go_wp2_with fail
      refine ⟨rfl, rfl, ⟨rfl, rfl, ⟨_, rfl, rfl⟩, i + 1, by omega, ?_, HI'⟩, ?_⟩
      · show Value.int .i64 _ = _
        go_num
      · show N.length - (intOf (Value.int .i64 _)).toNat < N.length - (intOf (F 5)).toNat
        rw [H5.out]
        simp [intOf]; omega
  · obtain rfl : i = N.length := by omega
    have hin' : ¬ ((N.length : Int) < (N.length : Int)) := by omega
    have HP : Hid (Q (.returned (.int .i64 (-1))) V) := by
      show Q _ _
      rw [HQ.out, lookF_no (fun j x hx => HI.out j (List.getElem?_eq_some_iff.1 hx).1 x hx)]; exact ⟨rfl, rfl⟩
    clear HI
    go_wp2_with fail
    try go_ret
    exact HP.out
set_option maxRecDepth 20000 in
theorem sname_any {B : Nat} {O : Own} {W : World} {g bst : Nat} {N : List (List UInt8)} {A : List Int} {R : List (List Tup)} (h : Sto B O W g bst N A R) {y : Nat} {x : List UInt8} (hx : N[y]? = some x) : Calls Tryz.prog 111 #[.pointer (some ⟨bst, 0, none⟩), .int .i64 (y : Int)] W fun e V => e = .returned (.string ⟨x.toArray⟩) ∧ V = W := by
  obtain ⟨na, nn, nc, aa, an, ac, ra, rn, rc, Ds, hs⟩ := h
  have hc := hs.cell
  have hnm := (hs.nm.rw encS_len).1
  have hnn : N.length = nn := hnm.1
  subst hnn
  obtain ⟨bn, Cn, rfl, g1, g2, g3⟩ := str_at hnm hx
  have hi := (List.getElem?_eq_some_iff.1 hx).1
  have i0 : (0 : Int) ≤ (y : Int) := by omega
  have i1 : (y : Int) < (N.length : Int) := by omega
  have i2 : ((y : Int)).toNat = y := by omega
  clear hs hnm hx
  go_enter Tryz.func111, Tryz.ntmps111
  go_wp2_with fail
  try go_ret
  exact ⟨rfl, rfl⟩
set_option maxRecDepth 20000 in
theorem syms_any {B : Nat} {O : Own} {W : World} {g bst : Nat} {N : List (List UInt8)} {A : List Int} {R : List (List Tup)} (h : Sto B O W g bst N A R) : Calls Tryz.prog 157 #[.pointer (some ⟨bst, 0, none⟩)] W fun e V => e = .returned (.int .i64 (N.length : Int)) ∧ V = W := by
  obtain ⟨na, nn, nc, aa, an, ac, ra, rn, rc, Ds, hs⟩ := h
  have hc := hs.cell
  have hnm := (hs.nm.rw encS_len).1
  have hnn : N.length = nn := hnm.1
  subst hnn
  clear hs hnm
  go_enter Tryz.func157, Tryz.ntmps157
  go_wp2_with fail
  try go_ret
  exact ⟨rfl, rfl⟩
end Go.Proofs.Qxb6500787aGreat
