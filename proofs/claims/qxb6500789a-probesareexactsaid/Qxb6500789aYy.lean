import Derived.Test.Qxb6500789aYx
import Derived.StillTailTactics
import Derived.Deep.QuietTactic
import Derived.BigQuiet
import Derived.Deep.RegionHeld
import Derived.Deep.CutRange
import Derived.Laws.ResultCell
import Derived.Laws.Rows
import Derived.DeepKeys
import Derived.DataBytes
import Derived.Laws.StructEq
import Derived.Laws.AppendOwn
import Derived.Laws.MakeOwn
import Derived.Lib.AppendStr
set_option linter.unusedSimpArgs false
set_option linter.unusedVariables false
namespace Go.Proofs.Qxb6500789a
open Go.RowKit Go.Blk
attribute [local go_sem ↓] execOp_load execOp_store execOp_alloc
attribute [local go_sem] Try.ld29 Try.st29 Try.ld3 Try.st3 Try.ld9 Try.st9 Try.ld30 Try.st30 Try.ld34 Try.st34 Try.ld35 Try.st35 Try.ld36 Try.st36 Try.ld37 Try.st37 Try.ld44 Try.st44 Try.ld45 Try.st45 Try.ld54 Try.st54 Try.ld55 Try.st55 Try.ld74 Try.st74 Try.ld80 Try.st80 Try.ld84 Try.st84 Try.ld106 Try.st106 Try.ld107 Try.st107 Try.ld4 Try.st4 Try.ld121 Try.st121 Try.ld2 Try.st2 Try.ld5 Try.st5 Try.ld12 Try.st12 Try.ld21 Try.st21 Try.ld22 Try.st22 Try.ld24 Try.st24 Try.ld26 Try.st26 Try.ld63 Try.st63 Try.ld71 Try.st71 Try.ld103 Try.st103 Try.ld130 Try.st130 Try.ld133 Try.st133 Try.ld140 Try.st140 Try.ld152 Try.st152 Try.ld39 Try.st39 Try.ld32 Try.st32 Try.ld41 Try.st41 Try.ld47 Try.st47 Try.ld57 Try.st57 Try.ld62 Try.st62 Try.ld76 Try.st76 Try.ld82 Try.st82 Try.ld86 Try.st86 Try.ld109 Try.st109 Try.ld115 Try.st115 Try.ld123 Try.st123 Try.ld135 Try.st135 Try.al39 Try.al32 Try.al41 Try.al47 Try.al57 Try.al62 Try.al76 Try.al82 Try.al86 Try.al109 Try.al115 Try.al123 Try.al135
attribute [local go_sem] Answer.length_enc Answer.ok_enc Answer.all_get Answer.all_set Answer.code_get Answer.code_set Answer.n_get Answer.n_set Answer.name_get Answer.name_set Answer.rows_get Answer.rows_set GOp.length_enc GOp.ok_enc GOp.all_get GOp.all_set GOp.kind_get GOp.kind_set GOp.rel_get GOp.rel_set GOp.mask_get GOp.mask_set GOp.t_get GOp.t_set GOp.n_get GOp.n_set GOp.name_get GOp.name_set Store.length_enc Store.ok_enc Store.all_get Store.all_set Store.names_get Store.names_set Store.rels_get Store.rels_set GRel.length_enc GRel.ok_enc GRel.all_get GRel.all_set GRel.arity_get GRel.arity_set GRel.masks_get GRel.masks_set GRel.rows_get GRel.rows_set Row.length_enc Row.ok_enc Row.all_get Row.all_set Row.t_get Row.t_set Row.mark_get Row.mark_set View.length_enc View.ok_enc View.all_get View.all_set View.names_get View.names_set View.rels_get View.rels_set Symtab.length_enc Symtab.ok_enc Symtab.all_get Symtab.all_set Symtab.names_get Symtab.names_set Symtab.table_get Symtab.table_set StoreTuplestore.length_enc StoreTuplestore.ok_enc StoreTuplestore.all_get StoreTuplestore.all_set StoreTuplestore.syms_get StoreTuplestore.syms_set StoreTuplestore.rels_get StoreTuplestore.rels_set StoreTuplestore.syms_names_get StoreTuplestore.syms_names_set StoreTuplestore.syms_table_get StoreTuplestore.syms_table_set Relation.length_enc Relation.ok_enc Relation.all_get Relation.all_set Relation.arity_get Relation.arity_set Relation.slots_get Relation.slots_set Relation.live_get Relation.live_set Relation.idx_get Relation.idx_set Slot.length_enc Slot.ok_enc Slot.all_get Slot.all_set Slot.t_get Slot.t_set Slot.mark_get Slot.mark_set Slot.live_get Slot.live_set RelView.length_enc RelView.ok_enc RelView.all_get RelView.all_set RelView.arity_get RelView.arity_set RelView.rows_get RelView.rows_set RelView.marks_get RelView.marks_set RelView.indexed_get RelView.indexed_set Index.length_enc Index.ok_enc Index.all_get Index.all_set Index.mask_get Index.mask_set Index.heads_get Index.heads_set Index.next_get Index.next_set
attribute [local go_sem] size_put size_ext blk_put free_put blk_alloc free_alloc blk_drew free_drew blk_ext free_ext lookOr_some putOr_some segAt_some cellAt_some storeIn_some put_put put_alloc_new length_arr ok_arr_u8 ok_arr_u32 ok_arr_u64 ok_arr_i64 ok_arr_sl cellsV_agg cellsV_int cellsV_bool cellsV_string cellsV_pointer cellsV_slice cellsV_sl ok_int ok_bool ok_string ok_pointer ok_slice ok_sl toList_arr seg_arr set_arr nth_splice nth_splice0 seg_splice seg_splice0 splice_splice splice_splice0 length_splice_if
attribute [local go_sem ↓] execOp_box
attribute [local go_sem] box_run nth_arr_u8 put_arr_u8 blk_drewN free_drewN put_drewN blk_raw free_raw
theorem b32_0 (w : World) : (buildOp 32 #[]).run Try.prog w = .ok (.value (.agg (Answer.enc (ans 0 0)).toArray)) w := by kernel_rfl
theorem b32_c (w : World) (c : Int) : (buildOp 32 #[(0, .int .i64 c)]).run Try.prog w = .ok (.value (.agg (Answer.enc (ans c 0)).toArray)) w := by kernel_rfl
theorem b32_n (w : World) (n : Int) : (buildOp 32 #[(1, .int .i64 n)]).run Try.prog w = .ok (.value (.agg (Answer.enc (ans 0 n)).toArray)) w := by kernel_rfl
theorem b32_cn (w : World) (c n : Int) : (buildOp 32 #[(0, .int .i64 c), (1, .int .i64 n)]).run Try.prog w = .ok (.value (.agg (Answer.enc (ans c n)).toArray)) w := by kernel_rfl
theorem b32_s (w : World) (s : ByteArray) : (buildOp 32 #[(2, .string s)]).run Try.prog w = .ok (.value (.agg (Answer.enc ⟨0, 0, s, ⟨none, 0, 0⟩⟩).toArray)) w := by kernel_rfl
theorem b32_r (w : World) (a : Option Addr) (n c : Nat) : (buildOp 32 #[(3, .slice a n c)]).run Try.prog w = .ok (.value (.agg (Answer.enc ⟨0, 0, ByteArray.empty, ⟨a, n, c⟩⟩).toArray)) w := by kernel_rfl
theorem b57 (w : World) (ar : Int) : (buildOp 57 #[(0, .int .i64 ar)]).run Try.prog w = .ok (.value (.agg (mrE ar none 0 0 none 0 0).toArray)) w := by kernel_rfl
def MAns (B : Nat) (O : Own) (W : World) (bm : Nat) (sm' : StS) (A : Answer) (e : Ending) (W' : World) : Prop := e = .returned (.agg A.enc.toArray) ∧ MOut B O W bm sm' W'
/-- The answer laid down in its new block. -/
theorem mout_put {B : Nat} {O : Own} {W W1 V : World} {bm b4 : Nat} {sm' : StS} (hx : W.Extends W1) (h4 : W.heap.size ≤ b4) (h4' : b4 < W1.heap.size) (h : MOut B (lab O W.heap.size .no) W1 bm sm' V) (C : List Value) : MOut B O W bm sm' (put V b4 C) := by
  obtain ⟨O', hF, hM⟩ := h
  have ho : O' b4 = .no := (hF.keep b4 h4').trans (lab_ge h4)
  have h0 : Fr isM O W (lab O W.heap.size .no) W1 := ⟨hx.os, hx.tape, hx.output, hx.size, fun k hk => lab_lt hk, fun k hk _ => hx.block k hk⟩
  refine ⟨O', (h0.trans hF).put_new h4 C, hM.keep (by rw [size_put]; exact Nat.le_refl _) (fun k hk hm => ⟨by rw [heap_put, if_neg (fun e => by rw [e, ho] at hm; obtain ⟨n, e⟩ := hm; cases e)], rfl⟩)⟩
theorem mout_blk {B : Nat} {O : Own} {W W1 V : World} {bm b4 : Nat} {sm' : StS} {C : List Value} (h4 : W.heap.size ≤ b4) (hb : blk W1 b4 = some C) (hf : free W1 b4 = true) (h : MOut B (lab O W.heap.size .no) W1 bm sm' V) : blk V b4 = some C ∧ free V b4 = true := by
  obtain ⟨O', hF, hM⟩ := h
  have ho : ¬ isM (lab O W.heap.size .no b4) := by rw [lab_ge h4]; rintro ⟨n, e⟩; cases e
  exact ⟨hF.blk hb ho, hF.free hb hf ho⟩
theorem MAt.new {B : Nat} {O : Own} {W W1 : World} {bm : Nat} {sm : StS} (h : MAt B O W bm sm) (hx : W.Extends W1) : MAt B (lab O W.heap.size .no) W1 bm sm := (h.relab (fun k hk => lab_lt hk)).ext hx
theorem MOut.trans' {B : Nat} {O : Own} {W V V' : World} {bm : Nat} {sm' : StS} (h : MOut B O W bm sm' V) (hx : V.Extends V') : MOut B O W bm sm' V' := by
  obtain ⟨O', hF, hM⟩ := h
  exact ⟨O', hF.trans (Fr.of_extends hx), hM.ext hx⟩
theorem MOut.bef {B : Nat} {O : Own} {W W1 V : World} {bm : Nat} {sm' : StS} (h : MOut B O W1 bm sm' V) (hx : W.Extends W1) : MOut B O W bm sm' V := by
  obtain ⟨O', hF, hM⟩ := h
  exact ⟨O', (Fr.of_extends hx).trans hF, hM⟩
/-- One name more. -/
theorem mnames_step {B : Nat} {O : Own} {W : World} {bm : Nat} {sm : StS} (h : MAt B O W bm sm) (hm : MSm sm) (nm : List UInt8) :
    ∃ na nn nc ra rn rc, blk W bm = some (vE na nn nc ra rn rc) ∧ free W bm = true ∧ nn = sm.names.length ∧ ∃ na' nc' W1, (Builtin.append_ #[44, 44] 44 #[.slice na nn nc, .slice (some ⟨W.heap.size, 0, none⟩) 1 1]).run Try.prog (W.alloc (.cells (encS nm).toArray 9)) = .ok (.slice na' (nn + 1) nc') W1 ∧ blk W1 bm = some (vE na nn nc ra rn rc) ∧ free W1 bm = true ∧ MOut B O W bm ⟨sm.names ++ [nm], sm.rels⟩ (put W1 bm (vE na' (nn + 1) nc' ra rn rc)) := by
  obtain ⟨na, nn, nc, ra, rn, rc, R, h⟩ := h
  have hl := hm.nms
  obtain ⟨na', nc', W1, hr, hrow, hf⟩ := appL encS 1 16 44 9 Try.underlying44 info9 encS_len encS_one (by omega) (by omega) (W := W) 44 nm h.nms h.base (by omega) (encS nm).toArray rfl 1
  have nb : blk W1 bm = some (vE na nn nc ra rn rc) := hf.blk h.cell (by rw [h.own]; intro e; cases e)
  have nf : free W1 bm = true := hf.free h.cell h.fre (by rw [h.own]; intro e; cases e)
  have no : lab O W.heap.size (.cl 1) bm = .cl 0 := (hf.keep bm (blk_lt h.cell)).trans h.own
  refine ⟨na, nn, nc, ra, rn, rc, h.cell, h.fre, ((h.nms.rw encS_len).1.1).symm, na', nc', W1, hr, nb, nf, lab O W.heap.size (.cl 1), ?_, na', nn + 1, nc', ra, rn, rc, R, ?_⟩
  · exact (hf.mono (fun l e => by rw [e]; exact isM_cl 1)).put (by rw [no]; exact isM_cl 0) _
  have hg : Fr (fun y => y = .cl 0) (lab O W.heap.size (.cl 1)) W1 (lab O W.heap.size (.cl 1)) (put W1 bm (vE na' (nn + 1) nc' ra rn rc)) := Fr.put (L := fun y => y = .cl 0) (Fr.refl _ _ W1) no _
  have hh : Fr (fun y => y = .cl 1 ∨ y = .cl 0) O W (lab O W.heap.size (.cl 1)) (put W1 bm (vE na' (nn + 1) nc' ra rn rc)) := (hf.mono (fun l e => .inl e)).trans (hg.mono (fun l e => .inr e))
  exact ⟨Nat.le_trans h.base hh.size, by rw [blk_put, if_pos rfl, nb]; rfl, by rw [free_put]; exact nf, no, hrow.fr hg (by intro e; cases e), h.rls.fr hh (by rintro (e | e) <;> cases e), h.len, fun i d s hd hs => (h.ok i d s hd hs).keep (fun k hk ho => ⟨hh.block k hk (by rcases ho with e | e <;> rw [e] <;> rintro (e | e) <;> injection e with e <;> omega), hh.keep k hk⟩)⟩
/-- One relation more. -/
theorem mrels_step {B : Nat} {O : Own} {W : World} {bm : Nat} {sm : StS} (h : MAt B O W bm sm) (hm : MSm sm) (s : RelS) (hs0 : rowsOf s.L = []) {O1 : Own} {W1 : World} {ka : Option Addr} {kn kc : Nat} (hf1 : Fr (fun l => l = .cl (3 + 2 * sm.rels.length) ∨ l = .cl (4 + 2 * sm.rels.length)) O W O1 W1) (hk : RowL B O1 (.cl (3 + 2 * sm.rels.length)) W1 36 1 (.slice ka kn kc) (mk0 s).length ((mk0 s).flatMap encK)) :
    ∃ na nn nc ra rn rc, blk W1 bm = some (vE na nn nc ra rn rc) ∧ free W1 bm = true ∧ rn = sm.rels.length ∧ ∃ ra' rc' W2, (Builtin.append_ #[45, 45] 45 #[.slice ra rn rc, .slice (some ⟨W1.heap.size, 0, none⟩) 1 1]).run Try.prog (W1.alloc (.cells (MrD.enc ⟨(s.ar : Int), ka, kn, kc, none, 0, 0⟩).toArray 57)) = .ok (.slice ra' (rn + 1) rc') W2 ∧ blk W2 bm = some (vE na nn nc ra rn rc) ∧ free W2 bm = true ∧ (∀ k C, blk W1 k = some C → ¬ O1 k = .cl 2 → blk W2 k = some C) ∧ MOut B O W bm ⟨sm.names, sm.rels ++ [s]⟩ (put W2 bm (vE na nn nc ra' (rn + 1) rc')) := by
  obtain ⟨na, nn, nc, ra, rn, rc, R, h⟩ := h
  have hl := hm.rls
  have hlen := h.len
  have h1b : blk W1 bm = some (vE na nn nc ra rn rc) := hf1.blk h.cell (by rw [h.own]; rintro (e | e) <;> injection e with e <;> omega)
  have h1f : free W1 bm = true := hf1.free h.cell h.fre (by rw [h.own]; rintro (e | e) <;> injection e with e <;> omega)
  have h1o : O1 bm = .cl 0 := (hf1.keep bm (blk_lt h.cell)).trans h.own
  have hr1 := h.rls.fr hf1 (by rintro (e | e) <;> injection e with e <;> omega)
  obtain ⟨ra', rc', W2, hr, hrow, hf⟩ := appL MrD.enc 3 56 45 57 Try.underlying45 info57 MrD.len MrD.one (by omega) (by omega) (W := W1) 45 ⟨(s.ar : Int), ka, kn, kc, none, 0, 0⟩ hr1 (Nat.le_trans h.base hf1.size) (by omega) _ rfl 1
  have nb : blk W2 bm = some (vE na nn nc ra rn rc) := hf.blk h1b (by rw [h1o]; intro e; cases e)
  have nf : free W2 bm = true := hf.free h1b h1f (by rw [h1o]; intro e; cases e)
  have no : lab O1 W1.heap.size (.cl 2) bm = .cl 0 := (hf.keep bm (blk_lt h1b)).trans h1o
  have hRn : R.length = rn := (h.rls.rw MrD.len).1.1
  have hg : Fr (fun y => y = .cl 0) (lab O1 W1.heap.size (.cl 2)) W2 (lab O1 W1.heap.size (.cl 2)) (put W2 bm (vE na nn nc ra' (rn + 1) rc')) := Fr.put (L := fun y => y = .cl 0) (Fr.refl _ _ W2) no _
  have hh1 : Fr (fun y => y = .cl 2 ∨ y = .cl 0) O1 W1 (lab O1 W1.heap.size (.cl 2)) (put W2 bm (vE na nn nc ra' (rn + 1) rc')) := (hf.mono (fun l e => .inl e)).trans (hg.mono (fun l e => .inr e))
  have hh : Fr (fun y => (y = .cl (3 + 2 * sm.rels.length) ∨ y = .cl (4 + 2 * sm.rels.length)) ∨ y = .cl 2 ∨ y = .cl 0) O W (lab O1 W1.heap.size (.cl 2)) (put W2 bm (vE na nn nc ra' (rn + 1) rc')) := (hf1.mono (fun l e => .inl e)).trans (hh1.mono (fun l e => .inr e))
  refine ⟨na, nn, nc, ra, rn, rc, h1b, h1f, by omega, ra', rc', W2, hr, nb, nf, fun k C hb ho => hf.blk hb ho, lab O1 W1.heap.size (.cl 2), hh.mono (fun l e => by rcases e with (e | e) | e | e <;> rw [e] <;> exact isM_cl _), na, nn, nc, ra', rn + 1, rc', R ++ [⟨(s.ar : Int), ka, kn, kc, none, 0, 0⟩], ?_⟩
  refine ⟨Nat.le_trans h.base hh.size, by rw [blk_put, if_pos rfl, nb]; rfl, by rw [free_put]; exact nf, no, h.nms.fr hh (by rintro ((e | e) | e | e) <;> injection e with e <;> omega), hrow.fr hg (by intro e; cases e), by rw [List.length_append, List.length_append, h.len]; rfl, fun i d s' hd hs => ?_⟩
  by_cases hi : i < R.length
  · rw [List.getElem?_append_left hi] at hd
    rw [List.getElem?_append_left (by omega)] at hs
    exact (h.ok i d s' hd hs).keep (fun k hk ho => ⟨hh.block k hk (by rcases ho with e | e <;> rw [e] <;> rintro ((e | e) | e | e) <;> injection e with e <;> omega), hh.keep k hk⟩)
  · rw [List.getElem?_append_right (by omega)] at hd hs
    have hi0 : i - R.length = 0 := by
      rcases Nat.eq_zero_or_pos (i - R.length) with e | e
      · exact e
      · rw [List.getElem?_eq_none (by simp; omega)] at hd; cases hd
    rw [← hlen, hi0] at hs
    rw [hi0] at hd
    have e1 : (⟨(s.ar : Int), ka, kn, kc, none, 0, 0⟩ : MrD) = d := by simpa using hd
    have e2 : s = s' := by simpa using hs
    have e3 : i = sm.rels.length := by omega
    subst e1 e2 e3
    refine ⟨rfl, hk.fr hh1 (by rintro (e | e) <;> injection e with e <;> omega), ?_⟩
    rw [hs0]
    exact RowL.nil _ _ _ _ _ _
attribute [local go_sem] v_len v_ok v_n0 v_n1 v_s0 v_s1 v_all v_put b32_0 b32_c b32_n b32_cn b32_s b32_r b57
attribute [local go_sem ↓] execOp_build execOp_bslice
end Go.Proofs.Qxb6500789a
