import Derived.Test.Qxb6500789aYn
import Derived.StillTailTactics
import Derived.Deep.QuietTactic
import Derived.BigQuiet
import Derived.Deep.RegionHeld
import Derived.Deep.CutRange
import Derived.Laws.ResultCell
import Derived.Laws.Rows
import Derived.DeepKeys
import Derived.DataBytes
import Derived.Laws.StructEq
import Derived.Laws.AppendOwn
import Derived.Laws.MakeOwn
import Derived.Lib.AppendStr
set_option linter.unusedSimpArgs false
set_option linter.unusedVariables false
namespace Go.Proofs.Qxb6500789a
open Go.RowKit Go.Blk
attribute [local go_sem ↓] execOp_load execOp_store execOp_alloc
attribute [local go_sem] Try.ld29 Try.st29 Try.ld3 Try.st3 Try.ld9 Try.st9 Try.ld30 Try.st30 Try.ld34 Try.st34 Try.ld35 Try.st35 Try.ld36 Try.st36 Try.ld37 Try.st37 Try.ld44 Try.st44 Try.ld45 Try.st45 Try.ld54 Try.st54 Try.ld55 Try.st55 Try.ld74 Try.st74 Try.ld80 Try.st80 Try.ld84 Try.st84 Try.ld106 Try.st106 Try.ld107 Try.st107 Try.ld4 Try.st4 Try.ld121 Try.st121 Try.ld2 Try.st2 Try.ld5 Try.st5 Try.ld12 Try.st12 Try.ld21 Try.st21 Try.ld22 Try.st22 Try.ld24 Try.st24 Try.ld26 Try.st26 Try.ld63 Try.st63 Try.ld71 Try.st71 Try.ld103 Try.st103 Try.ld130 Try.st130 Try.ld133 Try.st133 Try.ld140 Try.st140 Try.ld152 Try.st152 Try.ld39 Try.st39 Try.ld32 Try.st32 Try.ld41 Try.st41 Try.ld47 Try.st47 Try.ld57 Try.st57 Try.ld62 Try.st62 Try.ld76 Try.st76 Try.ld82 Try.st82 Try.ld86 Try.st86 Try.ld109 Try.st109 Try.ld115 Try.st115 Try.ld123 Try.st123 Try.ld135 Try.st135 Try.al39 Try.al32 Try.al41 Try.al47 Try.al57 Try.al62 Try.al76 Try.al82 Try.al86 Try.al109 Try.al115 Try.al123 Try.al135
attribute [local go_sem] Answer.length_enc Answer.ok_enc Answer.all_get Answer.all_set Answer.code_get Answer.code_set Answer.n_get Answer.n_set Answer.name_get Answer.name_set Answer.rows_get Answer.rows_set GOp.length_enc GOp.ok_enc GOp.all_get GOp.all_set GOp.kind_get GOp.kind_set GOp.rel_get GOp.rel_set GOp.mask_get GOp.mask_set GOp.t_get GOp.t_set GOp.n_get GOp.n_set GOp.name_get GOp.name_set Store.length_enc Store.ok_enc Store.all_get Store.all_set Store.names_get Store.names_set Store.rels_get Store.rels_set GRel.length_enc GRel.ok_enc GRel.all_get GRel.all_set GRel.arity_get GRel.arity_set GRel.masks_get GRel.masks_set GRel.rows_get GRel.rows_set Row.length_enc Row.ok_enc Row.all_get Row.all_set Row.t_get Row.t_set Row.mark_get Row.mark_set View.length_enc View.ok_enc View.all_get View.all_set View.names_get View.names_set View.rels_get View.rels_set Symtab.length_enc Symtab.ok_enc Symtab.all_get Symtab.all_set Symtab.names_get Symtab.names_set Symtab.table_get Symtab.table_set StoreTuplestore.length_enc StoreTuplestore.ok_enc StoreTuplestore.all_get StoreTuplestore.all_set StoreTuplestore.syms_get StoreTuplestore.syms_set StoreTuplestore.rels_get StoreTuplestore.rels_set StoreTuplestore.syms_names_get StoreTuplestore.syms_names_set StoreTuplestore.syms_table_get StoreTuplestore.syms_table_set Relation.length_enc Relation.ok_enc Relation.all_get Relation.all_set Relation.arity_get Relation.arity_set Relation.slots_get Relation.slots_set Relation.live_get Relation.live_set Relation.idx_get Relation.idx_set Slot.length_enc Slot.ok_enc Slot.all_get Slot.all_set Slot.t_get Slot.t_set Slot.mark_get Slot.mark_set Slot.live_get Slot.live_set RelView.length_enc RelView.ok_enc RelView.all_get RelView.all_set RelView.arity_get RelView.arity_set RelView.rows_get RelView.rows_set RelView.marks_get RelView.marks_set RelView.indexed_get RelView.indexed_set Index.length_enc Index.ok_enc Index.all_get Index.all_set Index.mask_get Index.mask_set Index.heads_get Index.heads_set Index.next_get Index.next_set
attribute [local go_sem] size_put size_ext blk_put free_put blk_alloc free_alloc blk_drew free_drew blk_ext free_ext lookOr_some putOr_some segAt_some cellAt_some storeIn_some put_put put_alloc_new length_arr ok_arr_u8 ok_arr_u32 ok_arr_u64 ok_arr_i64 ok_arr_sl cellsV_agg cellsV_int cellsV_bool cellsV_string cellsV_pointer cellsV_slice cellsV_sl ok_int ok_bool ok_string ok_pointer ok_slice ok_sl toList_arr seg_arr set_arr nth_splice nth_splice0 seg_splice seg_splice0 splice_splice splice_splice0 length_splice_if
attribute [local go_sem ↓] execOp_box
attribute [local go_sem] box_run nth_arr_u8 put_arr_u8 blk_drewN free_drewN put_drewN blk_raw free_raw
theorem RowL.frS {B : Nat} {O O' : Own} {l : Lab} {W W' : World} {e : TypeId} {sz : Nat} {v : Value} {n : Nat} {xs : List Value} (h : RowL B O l W e sz v n xs) (hf : FrS O W O' W') (hl : ¬ isSt l) : RowL B O' l W' e sz v n xs :=
  h.keep (fun k hk ho => ⟨(hf.keep k hk (by rw [ho]; exact hl)).2, (hf.keep k hk (by rw [ho]; exact hl)).1⟩)
theorem not_cl (n : Nat) : ¬ isSt (.cl n) := fun h => h.2 n rfl
/-- The law's own two lists: the names, and their numbers. -/
def N7 (B : Nat) (O : Own) (W : World) (names : List (List UInt8)) (na : Option Addr) (nn nc : Nat) (ua : Option Addr) (uc : Nat) : Prop := RowL B O (.cl 0) W 9 1 (.slice na nn nc) names.length (names.flatMap encS) ∧ RowL B O (.cl 1) W 37 1 (.slice ua nn uc) (List.range names.length).length ((List.range names.length).flatMap encK)
theorem N7.frS {B : Nat} {O O' : Own} {W W' : World} {names : List (List UInt8)} {na : Option Addr} {nn nc : Nat} {ua : Option Addr} {uc : Nat} (h : N7 B O W names na nn nc ua uc) (hf : FrS O W O' W') : N7 B O' W' names na nn nc ua uc := ⟨h.1.frS hf (not_cl 0), h.2.frS hf (not_cl 1)⟩
theorem N7.relab {B : Nat} {O O' : Own} {W : World} {names : List (List UInt8)} {na : Option Addr} {nn nc : Nat} {ua : Option Addr} {uc : Nat} (h : N7 B O W names na nn nc ua uc) (hk : ∀ k, k < W.heap.size → O' k = O k) : N7 B O' W names na nn nc ua uc := ⟨h.1.keep (fun k hk' _ => ⟨rfl, hk k hk'⟩), h.2.keep (fun k hk' _ => ⟨rfl, hk k hk'⟩)⟩
theorem N7.len {B : Nat} {O : Own} {W : World} {names : List (List UInt8)} {na : Option Addr} {nn nc : Nat} {ua : Option Addr} {uc : Nat} (h : N7 B O W names na nn nc ua uc) : names.length = nn := (h.1.rw encS_len).1.1
def L7 (W0 : World) (B bs : Nat) (W : World) (st : StS) (na : Option Addr) (nn nc : Nat) (ua : Option Addr) (uc : Nat) : Prop := ∃ O, StAt B O W bs st ∧ W0.Extends W ∧ (∀ k, k < W0.heap.size → O k = .no) ∧ N7 B O W st.names na nn nc ua uc
theorem L7.new {W0 : World} {B bs : Nat} {W W' : World} {st : StS} {na : Option Addr} {nn nc : Nat} {ua : Option Addr} {uc : Nat} (h : L7 W0 B bs W st na nn nc ua uc) (he : W.Extends W') : ∃ O, StAt B O W' bs st ∧ W0.Extends W' ∧ (∀ k, k < W0.heap.size → O k = .no) ∧ N7 B O W' st.names na nn nc ua uc ∧ ∀ k, W.heap.size ≤ k → O k = .no := by
  obtain ⟨O, h1, h2, h3, h4⟩ := h
  have hk : ∀ k, k < W.heap.size → lab O W.heap.size .no k = O k := fun k hk => lab_lt hk
  refine ⟨lab O W.heap.size .no, (h1.relab hk).ext he, h2.trans he, fun k hk => ?_, (h4.relab hk).frS (FrS.of_extends he), fun k hk => lab_ge hk⟩
  by_cases hk2 : k < W.heap.size
  · rw [lab_lt hk2]; exact h3 k hk
  · exact lab_ge (by omega)
theorem L7.ext {W0 : World} {B bs : Nat} {W W' : World} {st : StS} {na : Option Addr} {nn nc : Nat} {ua : Option Addr} {uc : Nat} (h : L7 W0 B bs W st na nn nc ua uc) (he : W.Extends W') : L7 W0 B bs W' st na nn nc ua uc := by
  obtain ⟨O, h1, h2, h3, h4⟩ := h
  exact ⟨O, h1.ext he, h2.trans he, h3, h4.frS (FrS.of_extends he)⟩
theorem bslice71 (w : World) (x : Int) : (bsliceOp 71 1 #[(0, .int .i64 x)]).run Try.prog w = .ok (.value (.slice (some ⟨w.heap.size, 0, none⟩) 1 1)) (w.alloc (.cells #[.int .i64 x] 37)) := by kernel_rfl
/-- Both lists grown by one. -/
theorem L7.grow {W0 : World} {B bs : Nat} {W : World} {st : StS} {na : Option Addr} {nn nc : Nat} {ua : Option Addr} {uc : Nat} {nm : List UInt8} {O : Own} (hS : StAt B O W bs ⟨st.names ++ [nm], st.rels⟩) (hx : W0.Extends W) (hno : ∀ k, k < W0.heap.size → O k = .no) (hN : N7 B O W st.names na nn nc ua uc) (hB : B ≤ W.heap.size) :
    ∃ na' nc' W1, (Builtin.append_ #[44, 44] 44 #[.slice na nn nc, .slice (some ⟨W.heap.size, 0, none⟩) 1 1]).run Try.prog (W.alloc (.cells (encS nm).toArray 9)) = .ok (.slice na' (nn + 1) nc') W1 ∧ (∀ k C, blk W k = some C → O k = .no → blk W1 k = some C) ∧
      ∃ ua' uc' W2, (Builtin.append_ #[71, 71] 71 #[.slice ua nn uc, .slice (some ⟨W1.heap.size, 0, none⟩) 1 1]).run Try.prog (W1.alloc (.cells (encK nn).toArray 37)) = .ok (.slice ua' (nn + 1) uc') W2 ∧ (∀ k C, blk W k = some C → O k = .no → blk W2 k = some C) ∧ L7 W0 B bs W2 ⟨st.names ++ [nm], st.rels⟩ na' (nn + 1) nc' ua' uc' := by
  have hcap := (hS.caps 0).1
  rw [List.length_append] at hcap
  have hnl := hN.len
  obtain ⟨na', nc', W1, hr1, hrow1, hf1⟩ := appL encS 1 16 44 9 Try.underlying44 info9 encS_len encS_one (by omega) (by omega) (W := W) 44 nm hN.1 hB (by omega) (encS nm).toArray rfl 1
  have hnums1 := hN.2.fr hf1 (by intro e; cases e)
  obtain ⟨ua', uc', W2, hr2, hrow2, hf2⟩ := appL encK 1 8 71 37 Try.underlying71 info37 encK_len encK_one (by omega) (by omega) (W := W1) 71 nn hnums1 (Nat.le_trans hB hf1.size) (by rw [List.length_range]; omega) (encK nn).toArray rfl 1
  have hk1 : ∀ k C, blk W k = some C → O k = .no → blk W1 k = some C ∧ lab O W.heap.size (.cl 0) k = .no := fun k C hb ho => ⟨hf1.blk hb (by rw [ho]; intro e; cases e), (hf1.keep k (blk_lt hb)).trans ho⟩
  refine ⟨na', nc', W1, hr1, fun k C hb ho => (hk1 k C hb ho).1, ua', uc', W2, hr2, fun k C hb ho => hf2.blk (hk1 k C hb ho).1 (by rw [(hk1 k C hb ho).2]; intro e; cases e), _, (hS.fr hf1 (fun l h e => by rw [e] at h; exact not_cl 0 h)).fr hf2 (fun l h e => by rw [e] at h; exact not_cl 1 h), ?_, ?_, ?_, ?_⟩
  · have h1 := hf1.extends hx (fun k hk e => by rw [hno k hk] at e; cases e)
    exact hf2.extends h1 (fun k hk e => by rw [hf1.keep k (Nat.lt_of_lt_of_le hk hx.size), hno k hk] at e; cases e)
  · intro k hk
    have hkW : k < W.heap.size := Nat.lt_of_lt_of_le hk hx.size
    exact (hf2.keep k (Nat.lt_of_lt_of_le hkW hf1.size)).trans ((hf1.keep k hkW).trans (hno k hk))
  · exact hrow1.fr hf2 (by intro e; cases e)
  · have e : (List.range (st.names ++ [nm]).length) = List.range st.names.length ++ [nn] := by rw [List.length_append, List.length_singleton, List.range_succ, hnl]
    show RowL B _ (.cl 1) W2 37 1 (.slice ua' (nn + 1) uc') (List.range (st.names ++ [nm]).length).length ((List.range (st.names ++ [nm]).length).flatMap encK)
    rw [e]; exact hrow2
end Go.Proofs.Qxb6500789a
