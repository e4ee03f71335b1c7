import Derived.Test.Qxb6500789aYq
import Derived.StillTailTactics
import Derived.Deep.QuietTactic
import Derived.BigQuiet
import Derived.Deep.RegionHeld
import Derived.Deep.CutRange
import Derived.Laws.ResultCell
import Derived.Laws.Rows
import Derived.DeepKeys
import Derived.DataBytes
import Derived.Laws.StructEq
import Derived.Laws.AppendOwn
import Derived.Laws.MakeOwn
import Derived.Lib.AppendStr
set_option linter.unusedSimpArgs false
set_option linter.unusedVariables false
namespace Go.Proofs.Qxb6500789a
open Go.RowKit Go.Blk
attribute [local go_sem ↓] execOp_load execOp_store execOp_alloc
attribute [local go_sem] Try.ld29 Try.st29 Try.ld3 Try.st3 Try.ld9 Try.st9 Try.ld30 Try.st30 Try.ld34 Try.st34 Try.ld35 Try.st35 Try.ld36 Try.st36 Try.ld37 Try.st37 Try.ld44 Try.st44 Try.ld45 Try.st45 Try.ld54 Try.st54 Try.ld55 Try.st55 Try.ld74 Try.st74 Try.ld80 Try.st80 Try.ld84 Try.st84 Try.ld106 Try.st106 Try.ld107 Try.st107 Try.ld4 Try.st4 Try.ld121 Try.st121 Try.ld2 Try.st2 Try.ld5 Try.st5 Try.ld12 Try.st12 Try.ld21 Try.st21 Try.ld22 Try.st22 Try.ld24 Try.st24 Try.ld26 Try.st26 Try.ld63 Try.st63 Try.ld71 Try.st71 Try.ld103 Try.st103 Try.ld130 Try.st130 Try.ld133 Try.st133 Try.ld140 Try.st140 Try.ld152 Try.st152 Try.ld39 Try.st39 Try.ld32 Try.st32 Try.ld41 Try.st41 Try.ld47 Try.st47 Try.ld57 Try.st57 Try.ld62 Try.st62 Try.ld76 Try.st76 Try.ld82 Try.st82 Try.ld86 Try.st86 Try.ld109 Try.st109 Try.ld115 Try.st115 Try.ld123 Try.st123 Try.ld135 Try.st135 Try.al39 Try.al32 Try.al41 Try.al47 Try.al57 Try.al62 Try.al76 Try.al82 Try.al86 Try.al109 Try.al115 Try.al123 Try.al135
attribute [local go_sem] Answer.length_enc Answer.ok_enc Answer.all_get Answer.all_set Answer.code_get Answer.code_set Answer.n_get Answer.n_set Answer.name_get Answer.name_set Answer.rows_get Answer.rows_set GOp.length_enc GOp.ok_enc GOp.all_get GOp.all_set GOp.kind_get GOp.kind_set GOp.rel_get GOp.rel_set GOp.mask_get GOp.mask_set GOp.t_get GOp.t_set GOp.n_get GOp.n_set GOp.name_get GOp.name_set Store.length_enc Store.ok_enc Store.all_get Store.all_set Store.names_get Store.names_set Store.rels_get Store.rels_set GRel.length_enc GRel.ok_enc GRel.all_get GRel.all_set GRel.arity_get GRel.arity_set GRel.masks_get GRel.masks_set GRel.rows_get GRel.rows_set Row.length_enc Row.ok_enc Row.all_get Row.all_set Row.t_get Row.t_set Row.mark_get Row.mark_set View.length_enc View.ok_enc View.all_get View.all_set View.names_get View.names_set View.rels_get View.rels_set Symtab.length_enc Symtab.ok_enc Symtab.all_get Symtab.all_set Symtab.names_get Symtab.names_set Symtab.table_get Symtab.table_set StoreTuplestore.length_enc StoreTuplestore.ok_enc StoreTuplestore.all_get StoreTuplestore.all_set StoreTuplestore.syms_get StoreTuplestore.syms_set StoreTuplestore.rels_get StoreTuplestore.rels_set StoreTuplestore.syms_names_get StoreTuplestore.syms_names_set StoreTuplestore.syms_table_get StoreTuplestore.syms_table_set Relation.length_enc Relation.ok_enc Relation.all_get Relation.all_set Relation.arity_get Relation.arity_set Relation.slots_get Relation.slots_set Relation.live_get Relation.live_set Relation.idx_get Relation.idx_set Slot.length_enc Slot.ok_enc Slot.all_get Slot.all_set Slot.t_get Slot.t_set Slot.mark_get Slot.mark_set Slot.live_get Slot.live_set RelView.length_enc RelView.ok_enc RelView.all_get RelView.all_set RelView.arity_get RelView.arity_set RelView.rows_get RelView.rows_set RelView.marks_get RelView.marks_set RelView.indexed_get RelView.indexed_set Index.length_enc Index.ok_enc Index.all_get Index.all_set Index.mask_get Index.mask_set Index.heads_get Index.heads_set Index.next_get Index.next_set
attribute [local go_sem] size_put size_ext blk_put free_put blk_alloc free_alloc blk_drew free_drew blk_ext free_ext lookOr_some putOr_some segAt_some cellAt_some storeIn_some put_put put_alloc_new length_arr ok_arr_u8 ok_arr_u32 ok_arr_u64 ok_arr_i64 ok_arr_sl cellsV_agg cellsV_int cellsV_bool cellsV_string cellsV_pointer cellsV_slice cellsV_sl ok_int ok_bool ok_string ok_pointer ok_slice ok_sl toList_arr seg_arr set_arr nth_splice nth_splice0 seg_splice seg_splice0 splice_splice splice_splice0 length_splice_if
attribute [local go_sem ↓] execOp_box
attribute [local go_sem] box_run nth_arr_u8 put_arr_u8 blk_drewN free_drewN put_drewN blk_raw free_raw
def vE (na : Option Addr) (nn nc : Nat) (ra : Option Addr) (rn rc : Nat) : List Value := [.slice na nn nc, .slice ra rn rc]
theorem v_len (na : Option Addr) (nn nc : Nat) (ra : Option Addr) (rn rc : Nat) : (vE na nn nc ra rn rc).length = 2 := rfl
theorem v_ok (na : Option Addr) (nn nc : Nat) (ra : Option Addr) (rn rc : Nat) : okCells 2 (vE na nn nc ra rn rc) = true := rfl
theorem v_n0 (na : Option Addr) (nn nc : Nat) (ra : Option Addr) (rn rc : Nat) : nth (vE na nn nc ra rn rc) 0 = some (.slice na nn nc) := rfl
theorem v_n1 (na : Option Addr) (nn nc : Nat) (ra : Option Addr) (rn rc : Nat) : nth (vE na nn nc ra rn rc) 1 = some (.slice ra rn rc) := rfl
theorem v_s0 (na : Option Addr) (nn nc : Nat) (ra : Option Addr) (rn rc : Nat) (a : Option Addr) (n c : Nat) : splice (vE na nn nc ra rn rc) 0 [.slice a n c] = vE a n c ra rn rc := rfl
theorem v_s1 (na : Option Addr) (nn nc : Nat) (ra : Option Addr) (rn rc : Nat) (a : Option Addr) (n c : Nat) : splice (vE na nn nc ra rn rc) 1 [.slice a n c] = vE na nn nc a n c := rfl
theorem v_all (na : Option Addr) (nn nc : Nat) (ra : Option Addr) (rn rc : Nat) : seg (vE na nn nc ra rn rc) 0 2 = vE na nn nc ra rn rc := rfl
theorem v_put (na : Option Addr) (nn nc : Nat) (ra : Option Addr) (rn rc : Nat) (na' : Option Addr) (nn' nc' : Nat) (ra' : Option Addr) (rn' rc' : Nat) : splice (vE na' nn' nc' ra' rn' rc') 0 (vE na nn nc ra rn rc) = vE na nn nc ra rn rc := rfl
def rvE (ar : Int) (ta : Option Addr) (tn tc : Nat) (ma : Option Addr) (mn mc : Nat) (xa : Option Addr) (xn xc : Nat) : List Value := [.int .i64 ar, .slice ta tn tc, .slice ma mn mc, .slice xa xn xc]
theorem rv_len (ar : Int) (ta : Option Addr) (tn tc : Nat) (ma : Option Addr) (mn mc : Nat) (xa : Option Addr) (xn xc : Nat) : (rvE ar ta tn tc ma mn mc xa xn xc).length = 4 := rfl
theorem rv_ok (ar : Int) (ta : Option Addr) (tn tc : Nat) (ma : Option Addr) (mn mc : Nat) (xa : Option Addr) (xn xc : Nat) : okCells 4 (rvE ar ta tn tc ma mn mc xa xn xc) = true := rfl
theorem rv_n0 (ar : Int) (ta : Option Addr) (tn tc : Nat) (ma : Option Addr) (mn mc : Nat) (xa : Option Addr) (xn xc : Nat) : nth (rvE ar ta tn tc ma mn mc xa xn xc) 0 = some (.int .i64 ar) := rfl
theorem rv_n1 (ar : Int) (ta : Option Addr) (tn tc : Nat) (ma : Option Addr) (mn mc : Nat) (xa : Option Addr) (xn xc : Nat) : nth (rvE ar ta tn tc ma mn mc xa xn xc) 1 = some (.slice ta tn tc) := rfl
theorem rv_n2 (ar : Int) (ta : Option Addr) (tn tc : Nat) (ma : Option Addr) (mn mc : Nat) (xa : Option Addr) (xn xc : Nat) : nth (rvE ar ta tn tc ma mn mc xa xn xc) 2 = some (.slice ma mn mc) := rfl
theorem rv_n3 (ar : Int) (ta : Option Addr) (tn tc : Nat) (ma : Option Addr) (mn mc : Nat) (xa : Option Addr) (xn xc : Nat) : nth (rvE ar ta tn tc ma mn mc xa xn xc) 3 = some (.slice xa xn xc) := rfl
theorem rv_s0 (ar : Int) (ta : Option Addr) (tn tc : Nat) (ma : Option Addr) (mn mc : Nat) (xa : Option Addr) (xn xc : Nat) (x : Int) : splice (rvE ar ta tn tc ma mn mc xa xn xc) 0 [.int .i64 x] = rvE x ta tn tc ma mn mc xa xn xc := rfl
theorem rv_s1 (ar : Int) (ta : Option Addr) (tn tc : Nat) (ma : Option Addr) (mn mc : Nat) (xa : Option Addr) (xn xc : Nat) (a : Option Addr) (n c : Nat) : splice (rvE ar ta tn tc ma mn mc xa xn xc) 1 [.slice a n c] = rvE ar a n c ma mn mc xa xn xc := rfl
theorem rv_s2 (ar : Int) (ta : Option Addr) (tn tc : Nat) (ma : Option Addr) (mn mc : Nat) (xa : Option Addr) (xn xc : Nat) (a : Option Addr) (n c : Nat) : splice (rvE ar ta tn tc ma mn mc xa xn xc) 2 [.slice a n c] = rvE ar ta tn tc a n c xa xn xc := rfl
theorem rv_s3 (ar : Int) (ta : Option Addr) (tn tc : Nat) (ma : Option Addr) (mn mc : Nat) (xa : Option Addr) (xn xc : Nat) (a : Option Addr) (n c : Nat) : splice (rvE ar ta tn tc ma mn mc xa xn xc) 3 [.slice a n c] = rvE ar ta tn tc ma mn mc a n c := rfl
theorem rv_all (ar : Int) (ta : Option Addr) (tn tc : Nat) (ma : Option Addr) (mn mc : Nat) (xa : Option Addr) (xn xc : Nat) : seg (rvE ar ta tn tc ma mn mc xa xn xc) 0 4 = rvE ar ta tn tc ma mn mc xa xn xc := rfl
theorem rv_put (ar : Int) (ta : Option Addr) (tn tc : Nat) (ma : Option Addr) (mn mc : Nat) (xa : Option Addr) (xn xc : Nat) (d : List Value) (h : d.length = 4) : splice d 0 (rvE ar ta tn tc ma mn mc xa xn xc) = rvE ar ta tn tc ma mn mc xa xn xc := by
  match d, h with
  | [_, _, _, _], _ => rfl
structure RvD where
  ar : Int
  ta : Option Addr
  tn : Nat
  tc : Nat
  ma : Option Addr
  mn : Nat
  mc : Nat
  xa : Option Addr
  xn : Nat
  xc : Nat
def RvD.enc (d : RvD) : List Value := rvE d.ar d.ta d.tn d.tc d.ma d.mn d.mc d.xa d.xn d.xc
theorem RvD.len (d : RvD) : d.enc.length = 4 := rfl
theorem RvD.one (d : RvD) : d.enc.all (fun v => v.oneCell') = true := rfl
def encI (x : Int) : List Value := [.int .i64 x]
theorem encI_len (x : Int) : (encI x).length = 1 := rfl
theorem encI_one (x : Int) : (encI x).all (fun v => v.oneCell') = true := rfl
def encB (x : Bool) : List Value := [.bool x]
theorem encB_len (x : Bool) : (encB x).length = 1 := rfl
theorem encB_one (x : Bool) : (encB x).all (fun v => v.oneCell') = true := rfl
theorem bslice121 (w : World) (x : Bool) : (bsliceOp 121 1 #[(0, .bool x)]).run Try.prog w = .ok (.value (.slice (some ⟨w.heap.size, 0, none⟩) 1 1)) (w.alloc (.cells #[.bool x] 4)) := by kernel_rfl
theorem bslice74_lit (w : World) (a b c d : Value) : (bsliceOp 74 1 #[(0, .agg #[a, b, c, d])]).run Try.prog w = .ok (.value (.slice (some ⟨w.heap.size, 0, none⟩) 1 1)) (w.alloc (.cells #[a, b, c, d] 123)) := by kernel_rfl
theorem bslice74 (w : World) (ar : Int) (ta : Option Addr) (tn tc : Nat) (ma : Option Addr) (mn mc : Nat) (xa : Option Addr) (xn xc : Nat) : (bsliceOp 74 1 #[(0, .agg (rvE ar ta tn tc ma mn mc xa xn xc).toArray)]).run Try.prog w = .ok (.value (.slice (some ⟨w.heap.size, 0, none⟩) 1 1)) (w.alloc (.cells (rvE ar ta tn tc ma mn mc xa xn xc).toArray 123)) := bslice74_lit w _ _ _ _
/-- A relation's view in memory. -/
structure RvL (N : Nat) (O : Own) (l2 l3 : Lab) (W : World) (d : RvD) (p : RvS) : Prop where
  ar : d.ar = p.ar
  rows : RowL N O .no W 39 4 (.slice d.ta d.tn d.tc) p.rows.length (p.rows.flatMap tpl)
  marks : RowL N O l2 W 3 1 (.slice d.ma d.mn d.mc) p.marks.length (p.marks.flatMap encI)
  ixs : RowL N O l3 W 4 1 (.slice d.xa d.xn d.xc) p.ixs.length (p.ixs.flatMap encB)
theorem RvL.keep {N : Nat} {O O' : Own} {l2 l3 : Lab} {W W' : World} {d : RvD} {p : RvS} (h : RvL N O l2 l3 W d p) (hw : ∀ k, k < W.heap.size → (O k = .no ∨ O k = l2 ∨ O k = l3) → W'.heap[k]? = W.heap[k]? ∧ O' k = O k) : RvL N O' l2 l3 W' d p :=
  ⟨h.ar, h.rows.keep (fun k hk ho => hw k hk (.inl ho)), h.marks.keep (fun k hk ho => hw k hk (.inr (.inl ho))), h.ixs.keep (fun k hk ho => hw k hk (.inr (.inr ho)))⟩
theorem RvL.fr {L : Lab → Prop} {N : Nat} {O O' : Own} {l2 l3 : Lab} {W W' : World} {d : RvD} {p : RvS} (h : RvL N O l2 l3 W d p) (hf : Fr L O W O' W') (h0 : ¬ L .no) (h2 : ¬ L l2) (h3 : ¬ L l3) : RvL N O' l2 l3 W' d p :=
  h.keep (fun k hk ho => ⟨hf.block k hk (by rcases ho with e | e | e <;> rw [e] <;> assumption), hf.keep k hk⟩)
/-- The view in hand: b2 the result's block, b3 the view's. -/
structure Lk (W0 : World) (O : Own) (W : World) (b2 b3 : Nat) (na : Option Addr) (nn nc : Nat) (ra : Option Addr) (rn rc : Nat) (names : List (List UInt8)) (P : List RvS) : Prop where
  ext : W0.Extends W
  no : ∀ k, k < W0.heap.size → O k = .no
  c2 : blk W b2 = some (vE none 0 0 none 0 0) ∧ free W b2 = true ∧ O b2 = .cl 5
  c3 : blk W b3 = some (vE na nn nc ra rn rc) ∧ free W b3 = true ∧ O b3 = .cl 4
  nms : RowL W0.heap.size O (.cl 0) W 9 1 (.slice na nn nc) names.length (names.flatMap encS)
  rels : ∃ R : List RvD, RowL W0.heap.size O (.cl 1) W 123 4 (.slice ra rn rc) R.length (R.flatMap RvD.enc) ∧ R.length = P.length ∧ ∀ (j : Nat) (d : RvD) (p : RvS), R[j]? = some d → P[j]? = some p → RvL W0.heap.size O .no .no W d p
def notK (l : Lab) : Prop := l = .cl 2 ∨ l = .cl 3 ∨ l = .cl 6
theorem Lk.fr {L : Lab → Prop} {W0 : World} {O O' : Own} {W W' : World} {b2 b3 : Nat} {na : Option Addr} {nn nc : Nat} {ra : Option Addr} {rn rc : Nat} {names : List (List UInt8)} {P : List RvS} (h : Lk W0 O W b2 b3 na nn nc ra rn rc names P) (hf : Fr L O W O' W') (hL : ∀ l, L l → notK l) : Lk W0 O' W' b2 b3 na nn nc ra rn rc names P := by
  have hn : ∀ n, n ≠ 2 → n ≠ 3 → n ≠ 6 → ¬ L (.cl n) := fun n h2 h3 h6 hl => by
    rcases hL _ hl with e | e | e <;> injection e with e <;> contradiction
  have h0 : ¬ L .no := fun hl => by rcases hL _ hl with e | e | e <;> cases e
  refine ⟨hf.extends h.ext (fun k hk => by rw [h.no k hk]; exact h0), fun k hk => (hf.keep k (Nat.lt_of_lt_of_le hk h.ext.size)).trans (h.no k hk), ⟨hf.blk h.c2.1 (by rw [h.c2.2.2]; exact hn 5 (by decide) (by decide) (by decide)), hf.free h.c2.1 h.c2.2.1 (by rw [h.c2.2.2]; exact hn 5 (by decide) (by decide) (by decide)), (hf.keep b2 (blk_lt h.c2.1)).trans h.c2.2.2⟩, ⟨hf.blk h.c3.1 (by rw [h.c3.2.2]; exact hn 4 (by decide) (by decide) (by decide)), hf.free h.c3.1 h.c3.2.1 (by rw [h.c3.2.2]; exact hn 4 (by decide) (by decide) (by decide)), (hf.keep b3 (blk_lt h.c3.1)).trans h.c3.2.2⟩, h.nms.fr hf (hn 0 (by decide) (by decide) (by decide)), ?_⟩
  obtain ⟨R, r1, r2, r3⟩ := h.rels
  exact ⟨R, r1.fr hf (hn 1 (by decide) (by decide) (by decide)), r2, fun j d p hd hp => (r3 j d p hd hp).fr hf h0 h0 h0⟩
/-- The relation in hand. -/
structure Lr (N : Nat) (O : Own) (W : World) (b8 : Nat) (d : RvD) (p : RvS) : Prop where
  c8 : blk W b8 = some d.enc ∧ free W b8 = true ∧ O b8 = .cl 6
  rv : RvL N O (.cl 2) (.cl 3) W d p
theorem Lr.fr {L : Lab → Prop} {N : Nat} {O O' : Own} {W W' : World} {b8 : Nat} {d : RvD} {p : RvS} (h : Lr N O W b8 d p) (hf : Fr L O W O' W') (h0 : ¬ L .no) (h2 : ¬ L (.cl 2)) (h3 : ¬ L (.cl 3)) (h6 : ¬ L (.cl 6)) : Lr N O' W' b8 d p :=
  ⟨⟨hf.blk h.c8.1 (by rw [h.c8.2.2]; exact h6), hf.free h.c8.1 h.c8.2.1 (by rw [h.c8.2.2]; exact h6), (hf.keep b8 (blk_lt h.c8.1)).trans h.c8.2.2⟩, h.rv.fr hf h0 h2 h3⟩
theorem Lr.lay {N : Nat} {O : Own} {W : World} {b8 : Nat} {C : List Value} (hb : blk W b8 = some C) (hfr : free W b8 = true) (ho : O b8 = .cl 6) {d' : RvD} {p' : RvS} (h' : RvL N O (.cl 2) (.cl 3) W d' p') : Lr N O (put W b8 d'.enc) b8 d' p' := by
  have hf : Fr (fun y => y = .cl 6) O W O (Blk.put W b8 d'.enc) := (Fr.refl _ O W).put ho _
  refine ⟨⟨?_, ?_, ho⟩, h'.fr hf (by intro e; cases e) (by intro e; cases e) (by intro e; cases e)⟩
  · rw [blk_put, if_pos rfl, hb]; rfl
  · rw [free_put]; exact hfr
theorem Lk.put8 {W0 : World} {O : Own} {W : World} {b2 b3 b8 : Nat} {na : Option Addr} {nn nc : Nat} {ra : Option Addr} {rn rc : Nat} {names : List (List UInt8)} {P : List RvS} (h : Lk W0 O W b2 b3 na nn nc ra rn rc names P) (ho : O b8 = .cl 6) (C : List Value) : Lk W0 O (put W b8 C) b2 b3 na nn nc ra rn rc names P :=
  h.fr ((Fr.refl (fun y => y = .cl 6) O W).put ho C) (fun l e => .inr (.inr e))
/-- One name more. -/
theorem Lk.name {W0 : World} {O : Own} {W : World} {b2 b3 : Nat} {na : Option Addr} {nn nc : Nat} {ra : Option Addr} {rn rc : Nat} {names : List (List UInt8)} {P : List RvS} (h : Lk W0 O W b2 b3 na nn nc ra rn rc names P) (hl : names.length ≤ 1000000) (nm : List UInt8) :
    ∃ na' nc' W1, (Builtin.append_ #[44, 44] 44 #[.slice na nn nc, .slice (some ⟨W.heap.size, 0, none⟩) 1 1]).run Try.prog (W.alloc (.cells (encS nm).toArray 9)) = .ok (.slice na' (nn + 1) nc') W1 ∧ blk W1 b3 = some (vE na nn nc ra rn rc) ∧ free W1 b3 = true ∧ ∃ O', Lk W0 O' (put W1 b3 (vE na' (nn + 1) nc' ra rn rc)) b2 b3 na' (nn + 1) nc' ra rn rc (names ++ [nm]) P := by
  obtain ⟨na', nc', W1, hr, hrow, hf⟩ := appL encS 1 16 44 9 Try.underlying44 info9 encS_len encS_one (by omega) (by omega) (W := W) 44 nm h.nms h.ext.size (by omega) (encS nm).toArray rfl 1
  have n3 : blk W1 b3 = some (vE na nn nc ra rn rc) := hf.blk h.c3.1 (by rw [h.c3.2.2]; intro e; cases e)
  have n3f : free W1 b3 = true := hf.free h.c3.1 h.c3.2.1 (by rw [h.c3.2.2]; intro e; cases e)
  have n3o : lab O W.heap.size (.cl 0) b3 = .cl 4 := (hf.keep b3 (blk_lt h.c3.1)).trans h.c3.2.2
  refine ⟨na', nc', W1, hr, n3, n3f, lab O W.heap.size (.cl 0), ?_⟩
  have hg : Fr (fun y => y = .cl 4) (lab O W.heap.size (.cl 0)) W1 (lab O W.heap.size (.cl 0)) (put W1 b3 (vE na' (nn + 1) nc' ra rn rc)) := Fr.put (L := fun y => y = .cl 4) (Fr.refl _ _ W1) n3o _
  have hh : Fr (fun y => y = .cl 0 ∨ y = .cl 4) O W (lab O W.heap.size (.cl 0)) (put W1 b3 (vE na' (nn + 1) nc' ra rn rc)) := (hf.mono (fun l e => .inl e)).trans (hg.mono (fun l e => .inr e))
  have h0 : ¬ (Lab.no = .cl 0 ∨ Lab.no = .cl 4) := by rintro (e | e) <;> cases e
  refine ⟨hh.extends h.ext (fun k hk => by rw [h.no k hk]; exact h0), fun k hk => (hh.keep k (Nat.lt_of_lt_of_le hk h.ext.size)).trans (h.no k hk), ⟨hh.blk h.c2.1 (by rw [h.c2.2.2]; rintro (e | e) <;> cases e), hh.free h.c2.1 h.c2.2.1 (by rw [h.c2.2.2]; rintro (e | e) <;> cases e), (hh.keep b2 (blk_lt h.c2.1)).trans h.c2.2.2⟩, ⟨by rw [blk_put, if_pos rfl, n3]; rfl, by rw [free_put]; exact n3f, n3o⟩, hrow.fr hg (by intro e; cases e), ?_⟩
  obtain ⟨R, r1, r2, r3⟩ := h.rels
  exact ⟨R, r1.fr hh (by rintro (e | e) <;> cases e), r2, fun j d p hd hp => (r3 j d p hd hp).fr hh h0 h0 h0⟩
/-- What is done is labelled as such. -/
def doneO (O : Own) : Own := fun k => match O k with | .cl n => if n = 2 ∨ n = 3 then .no else .cl n | x => x
theorem doneO_no {O : Own} {k : Nat} (h : O k = .no ∨ O k = .cl 2 ∨ O k = .cl 3) : doneO O k = .no := by
  unfold doneO
  rcases h with e | e | e
  · rw [e]
  · rw [e]; exact if_pos (.inl rfl)
  · rw [e]; exact if_pos (.inr rfl)
theorem doneO_cl {O : Own} {k n : Nat} (h : O k = .cl n) (h2 : n ≠ 2) (h3 : n ≠ 3) : doneO O k = .cl n := by
  unfold doneO
  rw [h]
  exact if_neg (by rintro (e | e) <;> contradiction)
theorem RowL.relabel {B : Nat} {O O' : Own} {l l' : Lab} {W : World} {e : TypeId} {sz : Nat} {v : Value} {n : Nat} {xs : List Value} (h : RowL B O l W e sz v n xs) (hl : ∀ k, O k = l → O' k = l') : RowL B O' l' W e sz v n xs := ⟨h.1, fun k hk => hl k (h.2 k hk)⟩
theorem Lk.done {W0 : World} {O : Own} {W : World} {b2 b3 : Nat} {na : Option Addr} {nn nc : Nat} {ra : Option Addr} {rn rc : Nat} {names : List (List UInt8)} {P : List RvS} (h : Lk W0 O W b2 b3 na nn nc ra rn rc names P) : Lk W0 (doneO O) W b2 b3 na nn nc ra rn rc names P := by
  obtain ⟨R, r1, r2, r3⟩ := h.rels
  exact ⟨h.ext, fun k hk => doneO_no (.inl (h.no k hk)), ⟨h.c2.1, h.c2.2.1, doneO_cl h.c2.2.2 (by decide) (by decide)⟩, ⟨h.c3.1, h.c3.2.1, doneO_cl h.c3.2.2 (by decide) (by decide)⟩, h.nms.relabel (fun k e => doneO_cl e (by decide) (by decide)), R, r1.relabel (fun k e => doneO_cl e (by decide) (by decide)), r2, fun j d p hd hp => ⟨(r3 j d p hd hp).ar, (r3 j d p hd hp).rows.relabel (fun k e => doneO_no (.inl e)), (r3 j d p hd hp).marks.relabel (fun k e => doneO_no (.inl e)), (r3 j d p hd hp).ixs.relabel (fun k e => doneO_no (.inl e))⟩⟩
/-- One relation more. -/
theorem Lk.rel {W0 : World} {O : Own} {W : World} {b2 b3 : Nat} {na : Option Addr} {nn nc : Nat} {ra : Option Addr} {rn rc : Nat} {names : List (List UInt8)} {P : List RvS} (h : Lk W0 O W b2 b3 na nn nc ra rn rc names P) (hl : P.length ≤ 1000000) {b8 : Nat} {d : RvD} {p : RvS} (hr : Lr W0.heap.size O W b8 d p) :
    ∃ ra' rc' W1, (Builtin.append_ #[74, 74] 74 #[.slice ra rn rc, .slice (some ⟨W.heap.size, 0, none⟩) 1 1]).run Try.prog (W.alloc (.cells d.enc.toArray 123)) = .ok (.slice ra' (rn + 1) rc') W1 ∧ blk W1 b3 = some (vE na nn nc ra rn rc) ∧ free W1 b3 = true ∧ ∃ O', Lk W0 O' (put W1 b3 (vE na nn nc ra' (rn + 1) rc')) b2 b3 na nn nc ra' (rn + 1) rc' names (P ++ [p]) := by
  have h' := h.done
  have hv : RvL W0.heap.size (doneO O) .no .no W d p := ⟨hr.rv.ar, hr.rv.rows.relabel (fun k e => doneO_no (.inl e)), hr.rv.marks.relabel (fun k e => doneO_no (.inr (.inl e))), hr.rv.ixs.relabel (fun k e => doneO_no (.inr (.inr e)))⟩
  obtain ⟨O1, hO1⟩ : ∃ O1, O1 = doneO O := ⟨_, rfl⟩
  rw [← hO1] at h' hv
  clear hO1 h hr
  obtain ⟨R, r1, r2, r3⟩ := h'.rels
  obtain ⟨ra', rc', W1, hrn, hrow, hf⟩ := appL RvD.enc 4 80 74 123 Try.underlying74 info123 RvD.len RvD.one (by omega) (by omega) (W := W) 74 d r1 h'.ext.size (by omega) d.enc.toArray rfl 1
  have n3 : blk W1 b3 = some (vE na nn nc ra rn rc) := hf.blk h'.c3.1 (by rw [h'.c3.2.2]; intro e; cases e)
  have n3f : free W1 b3 = true := hf.free h'.c3.1 h'.c3.2.1 (by rw [h'.c3.2.2]; intro e; cases e)
  have n3o : lab O1 W.heap.size (.cl 1) b3 = .cl 4 := (hf.keep b3 (blk_lt h'.c3.1)).trans h'.c3.2.2
  refine ⟨ra', rc', W1, hrn, n3, n3f, lab O1 W.heap.size (.cl 1), ?_⟩
  have hg : Fr (fun y => y = .cl 4) (lab O1 W.heap.size (.cl 1)) W1 (lab O1 W.heap.size (.cl 1)) (put W1 b3 (vE na nn nc ra' (rn + 1) rc')) := Fr.put (L := fun y => y = .cl 4) (Fr.refl _ _ W1) n3o _
  have hh : Fr (fun y => y = .cl 1 ∨ y = .cl 4) O1 W (lab O1 W.heap.size (.cl 1)) (put W1 b3 (vE na nn nc ra' (rn + 1) rc')) := (hf.mono (fun l e => .inl e)).trans (hg.mono (fun l e => .inr e))
  have h0 : ¬ (Lab.no = .cl 1 ∨ Lab.no = .cl 4) := by rintro (e | e) <;> cases e
  refine ⟨hh.extends h'.ext (fun k hk => by rw [h'.no k hk]; exact h0), fun k hk => (hh.keep k (Nat.lt_of_lt_of_le hk h'.ext.size)).trans (h'.no k hk), ⟨hh.blk h'.c2.1 (by rw [h'.c2.2.2]; rintro (e | e) <;> cases e), hh.free h'.c2.1 h'.c2.2.1 (by rw [h'.c2.2.2]; rintro (e | e) <;> cases e), (hh.keep b2 (blk_lt h'.c2.1)).trans h'.c2.2.2⟩, ⟨by rw [blk_put, if_pos rfl, n3]; rfl, by rw [free_put]; exact n3f, n3o⟩, h'.nms.fr hh (by rintro (e | e) <;> cases e), R ++ [d], hrow.fr hg (by intro e; cases e), by rw [List.length_append, List.length_append, r2]; rfl, fun j d1 p1 hd hp => ?_⟩
  by_cases hj : j < R.length
  · rw [List.getElem?_append_left hj] at hd
    rw [List.getElem?_append_left (by omega)] at hp
    exact (r3 j d1 p1 hd hp).fr hh h0 h0 h0
  · rw [List.getElem?_append_right (by omega)] at hd hp
    have hj0 : j - R.length = 0 := by
      rcases Nat.eq_zero_or_pos (j - R.length) with e | e
      · exact e
      · rw [List.getElem?_eq_none (by simp; omega)] at hd; cases hd
    rw [← r2, hj0] at hp
    rw [hj0] at hd
    have e1 : d = d1 := by simpa using hd
    have e2 : p = p1 := by simpa using hp
    subst e1 e2
    exact hv.fr hh h0 h0 h0
/-- One mark more. -/
theorem Lr.mark {W0 : World} {O : Own} {W : World} {b2 b3 : Nat} {na : Option Addr} {nn nc : Nat} {ra : Option Addr} {rn rc : Nat} {names : List (List UInt8)} {P : List RvS} (hk : Lk W0 O W b2 b3 na nn nc ra rn rc names P) {b8 : Nat} {d : RvD} {p : RvS} (h : Lr W0.heap.size O W b8 d p) (hl : p.marks.length ≤ 1000000) (x : Int) :
    ∃ ma' mc' W1, (Builtin.append_ #[80, 80] 80 #[.slice d.ma d.mn d.mc, .slice (some ⟨W.heap.size, 0, none⟩) 1 1]).run Try.prog (W.alloc (.cells (encI x).toArray 3)) = .ok (.slice ma' (d.mn + 1) mc') W1 ∧ blk W1 b8 = some d.enc ∧ free W1 b8 = true ∧ ∃ O', Lk W0 O' (put W1 b8 (rvE d.ar d.ta d.tn d.tc ma' (d.mn + 1) mc' d.xa d.xn d.xc)) b2 b3 na nn nc ra rn rc names P ∧ Lr W0.heap.size O' (put W1 b8 (rvE d.ar d.ta d.tn d.tc ma' (d.mn + 1) mc' d.xa d.xn d.xc)) b8 ⟨d.ar, d.ta, d.tn, d.tc, ma', d.mn + 1, mc', d.xa, d.xn, d.xc⟩ ⟨p.ar, p.rows, p.marks ++ [x], p.ixs⟩ := by
  obtain ⟨ma', mc', W1, hr, hrow, hf⟩ := appL encI 1 8 80 3 Try.underlying80 info3 encI_len encI_one (by omega) (by omega) (W := W) 80 x h.rv.marks hk.ext.size (by omega) (encI x).toArray rfl 1
  have n8 : blk W1 b8 = some d.enc := hf.blk h.c8.1 (by rw [h.c8.2.2]; intro e; cases e)
  have n8f : free W1 b8 = true := hf.free h.c8.1 h.c8.2.1 (by rw [h.c8.2.2]; intro e; cases e)
  have n8o : lab O W.heap.size (.cl 2) b8 = .cl 6 := (hf.keep b8 (blk_lt h.c8.1)).trans h.c8.2.2
  refine ⟨ma', mc', W1, hr, n8, n8f, lab O W.heap.size (.cl 2), (hk.fr hf (fun l e => .inl e)).put8 n8o _, ?_⟩
  exact Lr.lay (d' := ⟨d.ar, d.ta, d.tn, d.tc, ma', d.mn + 1, mc', d.xa, d.xn, d.xc⟩) (p' := ⟨p.ar, p.rows, p.marks ++ [x], p.ixs⟩) n8 n8f n8o ⟨h.rv.ar, h.rv.rows.fr hf (by intro e; cases e), hrow, h.rv.ixs.fr hf (by intro e; cases e)⟩
/-- One index's answer more. -/
theorem Lr.ix {W0 : World} {O : Own} {W : World} {b2 b3 : Nat} {na : Option Addr} {nn nc : Nat} {ra : Option Addr} {rn rc : Nat} {names : List (List UInt8)} {P : List RvS} (hk : Lk W0 O W b2 b3 na nn nc ra rn rc names P) {b8 : Nat} {d : RvD} {p : RvS} (h : Lr W0.heap.size O W b8 d p) (hl : p.ixs.length ≤ 1000000) (x : Bool) :
    ∃ xa' xc' W1, (Builtin.append_ #[121, 121] 121 #[.slice d.xa d.xn d.xc, .slice (some ⟨W.heap.size, 0, none⟩) 1 1]).run Try.prog (W.alloc (.cells (encB x).toArray 4)) = .ok (.slice xa' (d.xn + 1) xc') W1 ∧ blk W1 b8 = some d.enc ∧ free W1 b8 = true ∧ ∃ O', Lk W0 O' (put W1 b8 (rvE d.ar d.ta d.tn d.tc d.ma d.mn d.mc xa' (d.xn + 1) xc')) b2 b3 na nn nc ra rn rc names P ∧ Lr W0.heap.size O' (put W1 b8 (rvE d.ar d.ta d.tn d.tc d.ma d.mn d.mc xa' (d.xn + 1) xc')) b8 ⟨d.ar, d.ta, d.tn, d.tc, d.ma, d.mn, d.mc, xa', d.xn + 1, xc'⟩ ⟨p.ar, p.rows, p.marks, p.ixs ++ [x]⟩ := by
  obtain ⟨xa', xc', W1, hr, hrow, hf⟩ := appL encB 1 1 121 4 Try.underlying121 info4 encB_len encB_one (by omega) (by omega) (W := W) 121 x h.rv.ixs hk.ext.size (by omega) (encB x).toArray rfl 1
  have n8 : blk W1 b8 = some d.enc := hf.blk h.c8.1 (by rw [h.c8.2.2]; intro e; cases e)
  have n8f : free W1 b8 = true := hf.free h.c8.1 h.c8.2.1 (by rw [h.c8.2.2]; intro e; cases e)
  have n8o : lab O W.heap.size (.cl 3) b8 = .cl 6 := (hf.keep b8 (blk_lt h.c8.1)).trans h.c8.2.2
  refine ⟨xa', xc', W1, hr, n8, n8f, lab O W.heap.size (.cl 3), (hk.fr hf (fun l e => .inr (.inl e))).put8 n8o _, ?_⟩
  exact Lr.lay (d' := ⟨d.ar, d.ta, d.tn, d.tc, d.ma, d.mn, d.mc, xa', d.xn + 1, xc'⟩) (p' := ⟨p.ar, p.rows, p.marks, p.ixs ++ [x]⟩) n8 n8f n8o ⟨h.rv.ar, h.rv.rows.fr hf (by intro e; cases e), h.rv.marks.fr hf (by intro e; cases e), hrow⟩
/-- A new relation's block. -/
theorem Lk.begin {W0 : World} {O : Own} {W : World} {b2 b3 : Nat} {na : Option Addr} {nn nc : Nat} {ra : Option Addr} {rn rc : Nat} {names : List (List UInt8)} {P : List RvS} (h : Lk W0 O W b2 b3 na nn nc ra rn rc names P) :
    ∃ O', Lk W0 O' (W.alloc (.cells (rvE 0 none 0 0 none 0 0 none 0 0).toArray 123)) b2 b3 na nn nc ra rn rc names P ∧ Lr W0.heap.size O' (W.alloc (.cells (rvE 0 none 0 0 none 0 0 none 0 0).toArray 123)) W.heap.size ⟨0, none, 0, 0, none, 0, 0, none, 0, 0⟩ ⟨0, [], [], []⟩ := by
  have hx : W.Extends (W.alloc (.cells (rvE 0 none 0 0 none 0 0 none 0 0).toArray 123)) := extends_alloc (ext_Ext (Ext.refl _)) _
  have hf : Fr (fun y => y = .cl 6) O W (lab O W.heap.size (.cl 6)) (W.alloc (.cells (rvE 0 none 0 0 none 0 0 none 0 0).toArray 123)) := ⟨hx.os, hx.tape, hx.output, hx.size, fun k hk => lab_lt hk, fun k hk _ => hx.block k hk⟩
  refine ⟨lab O W.heap.size (.cl 6), h.fr hf (fun l e => .inr (.inr e)), ⟨?_, ?_, lab_ge (Nat.le_refl _)⟩, ⟨rfl, RowL.nil _ _ _ _ _ _, RowL.nil _ _ _ _ _ _, RowL.nil _ _ _ _ _ _⟩⟩
  · rw [blk_alloc, if_pos rfl]; rfl
  · unfold free; rw [heap_alloc, if_pos rfl]; rfl
/-- The arity laid down. -/
theorem Lr.arity {W0 : World} {O : Own} {W : World} {b2 b3 : Nat} {na : Option Addr} {nn nc : Nat} {ra : Option Addr} {rn rc : Nat} {names : List (List UInt8)} {P : List RvS} (hk : Lk W0 O W b2 b3 na nn nc ra rn rc names P) {b8 : Nat} {d : RvD} {p : RvS} (h : Lr W0.heap.size O W b8 d p) (x : Int) :
    Lk W0 O (put W b8 (rvE x d.ta d.tn d.tc d.ma d.mn d.mc d.xa d.xn d.xc)) b2 b3 na nn nc ra rn rc names P ∧ Lr W0.heap.size O (put W b8 (rvE x d.ta d.tn d.tc d.ma d.mn d.mc d.xa d.xn d.xc)) b8 ⟨x, d.ta, d.tn, d.tc, d.ma, d.mn, d.mc, d.xa, d.xn, d.xc⟩ ⟨x, p.rows, p.marks, p.ixs⟩ :=
  ⟨hk.put8 h.c8.2.2 _, Lr.lay (d' := ⟨x, d.ta, d.tn, d.tc, d.ma, d.mn, d.mc, d.xa, d.xn, d.xc⟩) (p' := ⟨x, p.rows, p.marks, p.ixs⟩) h.c8.1 h.c8.2.1 h.c8.2.2 ⟨rfl, h.rv.rows, h.rv.marks, h.rv.ixs⟩⟩
theorem Lk.ext' {W0 : World} {O : Own} {W W' : World} {b2 b3 : Nat} {na : Option Addr} {nn nc : Nat} {ra : Option Addr} {rn rc : Nat} {names : List (List UInt8)} {P : List RvS} (h : Lk W0 O W b2 b3 na nn nc ra rn rc names P) (he : W.Extends W') : Lk W0 O W' b2 b3 na nn nc ra rn rc names P := h.fr (L := fun _ => False) (Fr.of_extends he) (fun _ h => h.elim)
theorem Lr.ext {N : Nat} {O : Own} {W W' : World} {b8 : Nat} {d : RvD} {p : RvS} (h : Lr N O W b8 d p) (he : W.Extends W') : Lr N O W' b8 d p := h.fr (L := fun _ => False) (Fr.of_extends he) (fun h => h) (fun h => h) (fun h => h) (fun h => h)
/-- The rows laid down: they lie in memory that is new. -/
theorem Lr.rowsPut {W0 : World} {O : Own} {W W' : World} {b2 b3 : Nat} {na : Option Addr} {nn nc : Nat} {ra : Option Addr} {rn rc : Nat} {names : List (List UInt8)} {P : List RvS} (hk : Lk W0 O W b2 b3 na nn nc ra rn rc names P) {b8 : Nat} {d : RvD} {p : RvS} (h : Lr W0.heap.size O W b8 d p) {a : Option Addr} {n c : Nat} {ts : List Tup} (ho : Outs W W' a n c ts) :
    blk W' b8 = some d.enc ∧ free W' b8 = true ∧ ∃ O', Lk W0 O' (put W' b8 (rvE d.ar a n c d.ma d.mn d.mc d.xa d.xn d.xc)) b2 b3 na nn nc ra rn rc names P ∧ Lr W0.heap.size O' (put W' b8 (rvE d.ar a n c d.ma d.mn d.mc d.xa d.xn d.xc)) b8 ⟨d.ar, a, n, c, d.ma, d.mn, d.mc, d.xa, d.xn, d.xc⟩ ⟨p.ar, ts, p.marks, p.ixs⟩ := by
  have hf : Fr (fun _ => False) O W (lab O W.heap.size .no) W' := ⟨ho.2.1.os, ho.2.1.tape, ho.2.1.output, ho.2.1.size, fun k hk => lab_lt hk, fun k hk _ => ho.2.1.block k hk⟩
  have h1 := hk.fr hf (fun _ h => h.elim)
  have h2 := h.fr hf (fun h => h) (fun h => h) (fun h => h) (fun h => h)
  refine ⟨h2.c8.1, h2.c8.2.1, lab O W.heap.size .no, h1.put8 h2.c8.2.2 _, Lr.lay (d' := ⟨d.ar, a, n, c, d.ma, d.mn, d.mc, d.xa, d.xn, d.xc⟩) (p' := ⟨p.ar, ts, p.marks, p.ixs⟩) h2.c8.1 h2.c8.2.1 h2.c8.2.2 ⟨h2.rv.ar, ⟨row_base ho.1 hk.ext.size, fun k hk' => lab_ge (row_at ho.1 k hk').1⟩, h2.rv.marks, h2.rv.ixs⟩⟩
/-- A view in memory, read. -/
def RvAt (N : Nat) (W : World) (d : RvD) (p : RvS) : Prop := d.ar = p.ar ∧ W.ownsRow N 39 4 (.slice d.ta d.tn d.tc) p.rows.length (p.rows.flatMap tpl) ∧ W.ownsRow N 3 1 (.slice d.ma d.mn d.mc) p.marks.length (p.marks.flatMap encI) ∧ W.ownsRow N 4 1 (.slice d.xa d.xn d.xc) p.ixs.length (p.ixs.flatMap encB)
def VwAt (N : Nat) (W : World) (na : Option Addr) (nn nc : Nat) (ra : Option Addr) (rn rc : Nat) (names : List (List UInt8)) (P : List RvS) : Prop := W.ownsRow N 9 1 (.slice na nn nc) names.length (names.flatMap encS) ∧ ∃ R : List RvD, W.ownsRow N 123 4 (.slice ra rn rc) R.length (R.flatMap RvD.enc) ∧ R.length = P.length ∧ ∀ (j : Nat) (d : RvD) (p : RvS), R[j]? = some d → P[j]? = some p → RvAt N W d p
theorem VwAt.keep {N : Nat} {W W' : World} {na : Option Addr} {nn nc : Nat} {ra : Option Addr} {rn rc : Nat} {names : List (List UInt8)} {P : List RvS} (h : VwAt N W na nn nc ra rn rc names P) (hw : ∀ k, N ≤ k → k < W.heap.size → W'.heap[k]? = W.heap[k]?) : VwAt N W' na nn nc ra rn rc names P := by
  have hr : ∀ {e : TypeId} {sz : Nat} {v : Value} {n : Nat} {xs : List Value}, W.ownsRow N e sz v n xs → W'.ownsRow N e sz v n xs := fun h => row_keep h (fun k hk => hw k (row_at h k hk).1 (row_at h k hk).2.1)
  obtain ⟨h1, R, h2, h3, h4⟩ := h
  exact ⟨hr h1, R, hr h2, h3, fun j d p hd hp => ⟨(h4 j d p hd hp).1, hr (h4 j d p hd hp).2.1, hr (h4 j d p hd hp).2.2.1, hr (h4 j d p hd hp).2.2.2⟩⟩
theorem VwAt.ext {N : Nat} {W W' : World} {na : Option Addr} {nn nc : Nat} {ra : Option Addr} {rn rc : Nat} {names : List (List UInt8)} {P : List RvS} (h : VwAt N W na nn nc ra rn rc names P) (he : W.Extends W') : VwAt N W' na nn nc ra rn rc names P := h.keep (fun k _ hk => he.block k hk)
theorem Lk.view {W0 : World} {O : Own} {W : World} {b2 b3 : Nat} {na : Option Addr} {nn nc : Nat} {ra : Option Addr} {rn rc : Nat} {names : List (List UInt8)} {P : List RvS} (h : Lk W0 O W b2 b3 na nn nc ra rn rc names P) : VwAt W0.heap.size (put W b2 (vE na nn nc ra rn rc)) na nn nc ra rn rc names P ∧ W0.Extends (put W b2 (vE na nn nc ra rn rc)) := by
  have hf : Fr (fun y => y = .cl 5) O W O (put W b2 (vE na nn nc ra rn rc)) := (Fr.refl _ O W).put h.c2.2.2 _
  obtain ⟨R, r1, r2, r3⟩ := h.rels
  refine ⟨⟨(h.nms.fr hf (by intro e; cases e)).1, R, (r1.fr hf (by intro e; cases e)).1, r2, fun j d p hd hp => ?_⟩, hf.extends h.ext (fun k hk e => by rw [h.no k hk] at e; cases e)⟩
  have := (r3 j d p hd hp).fr hf (by intro e; cases e) (by intro e; cases e) (by intro e; cases e)
  exact ⟨this.ar, this.rows.1, this.marks.1, this.ixs.1⟩
/-- At the start. -/
theorem Lk.start {W0 W : World} {b2 b3 : Nat} (hx : W0.Extends W) (h2 : blk W b2 = some (vE none 0 0 none 0 0)) (h2f : free W b2 = true) (h3 : blk W b3 = some (vE none 0 0 none 0 0)) (h3f : free W b3 = true) (n2 : W0.heap.size ≤ b2) (n3 : b2 < b3) : ∃ O, Lk W0 O W b2 b3 none 0 0 none 0 0 [] [] := by
  refine ⟨fun k => if k = b2 then .cl 5 else if k = b3 then .cl 4 else .no, hx, fun k hk => ?_, ⟨h2, h2f, if_pos rfl⟩, ⟨h3, h3f, ?_⟩, RowL.nil _ _ _ _ _ _, [], RowL.nil _ _ _ _ _ _, rfl, fun j d p hd => by simp at hd⟩
  · rw [if_neg (by omega), if_neg (by omega)]
  · rw [if_neg (by omega), if_pos rfl]
end Go.Proofs.Qxb6500789a
