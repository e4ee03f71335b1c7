import Derived.Test.Qxb6500789aZm
import Derived.StillTailTactics
import Derived.Deep.QuietTactic
import Derived.BigQuiet
import Derived.Deep.RegionHeld
import Derived.Deep.CutRange
import Derived.Laws.ResultCell
import Derived.Laws.Rows
import Derived.DeepKeys
import Derived.DataBytes
import Derived.Laws.StructEq
import Derived.Laws.AppendOwn
import Derived.Laws.MakeOwn
import Derived.Lib.AppendStr
set_option linter.unusedSimpArgs false
set_option linter.unusedVariables false
namespace Go.Proofs.Qxb6500789a
open Go.RowKit Go.Blk
attribute [local go_sem ↓] execOp_load execOp_store execOp_alloc
attribute [local go_sem] Try.ld29 Try.st29 Try.ld3 Try.st3 Try.ld9 Try.st9 Try.ld30 Try.st30 Try.ld34 Try.st34 Try.ld35 Try.st35 Try.ld36 Try.st36 Try.ld37 Try.st37 Try.ld44 Try.st44 Try.ld45 Try.st45 Try.ld54 Try.st54 Try.ld55 Try.st55 Try.ld74 Try.st74 Try.ld80 Try.st80 Try.ld84 Try.st84 Try.ld106 Try.st106 Try.ld107 Try.st107 Try.ld4 Try.st4 Try.ld121 Try.st121 Try.ld2 Try.st2 Try.ld5 Try.st5 Try.ld12 Try.st12 Try.ld21 Try.st21 Try.ld22 Try.st22 Try.ld24 Try.st24 Try.ld26 Try.st26 Try.ld63 Try.st63 Try.ld71 Try.st71 Try.ld103 Try.st103 Try.ld130 Try.st130 Try.ld133 Try.st133 Try.ld140 Try.st140 Try.ld152 Try.st152 Try.ld39 Try.st39 Try.ld32 Try.st32 Try.ld41 Try.st41 Try.ld47 Try.st47 Try.ld57 Try.st57 Try.ld62 Try.st62 Try.ld76 Try.st76 Try.ld82 Try.st82 Try.ld86 Try.st86 Try.ld109 Try.st109 Try.ld115 Try.st115 Try.ld123 Try.st123 Try.ld135 Try.st135 Try.al39 Try.al32 Try.al41 Try.al47 Try.al57 Try.al62 Try.al76 Try.al82 Try.al86 Try.al109 Try.al115 Try.al123 Try.al135
attribute [local go_sem] Answer.length_enc Answer.ok_enc Answer.all_get Answer.all_set Answer.code_get Answer.code_set Answer.n_get Answer.n_set Answer.name_get Answer.name_set Answer.rows_get Answer.rows_set GOp.length_enc GOp.ok_enc GOp.all_get GOp.all_set GOp.kind_get GOp.kind_set GOp.rel_get GOp.rel_set GOp.mask_get GOp.mask_set GOp.t_get GOp.t_set GOp.n_get GOp.n_set GOp.name_get GOp.name_set Store.length_enc Store.ok_enc Store.all_get Store.all_set Store.names_get Store.names_set Store.rels_get Store.rels_set GRel.length_enc GRel.ok_enc GRel.all_get GRel.all_set GRel.arity_get GRel.arity_set GRel.masks_get GRel.masks_set GRel.rows_get GRel.rows_set Row.length_enc Row.ok_enc Row.all_get Row.all_set Row.t_get Row.t_set Row.mark_get Row.mark_set View.length_enc View.ok_enc View.all_get View.all_set View.names_get View.names_set View.rels_get View.rels_set Symtab.length_enc Symtab.ok_enc Symtab.all_get Symtab.all_set Symtab.names_get Symtab.names_set Symtab.table_get Symtab.table_set StoreTuplestore.length_enc StoreTuplestore.ok_enc StoreTuplestore.all_get StoreTuplestore.all_set StoreTuplestore.syms_get StoreTuplestore.syms_set StoreTuplestore.rels_get StoreTuplestore.rels_set StoreTuplestore.syms_names_get StoreTuplestore.syms_names_set StoreTuplestore.syms_table_get StoreTuplestore.syms_table_set Relation.length_enc Relation.ok_enc Relation.all_get Relation.all_set Relation.arity_get Relation.arity_set Relation.slots_get Relation.slots_set Relation.live_get Relation.live_set Relation.idx_get Relation.idx_set Slot.length_enc Slot.ok_enc Slot.all_get Slot.all_set Slot.t_get Slot.t_set Slot.mark_get Slot.mark_set Slot.live_get Slot.live_set RelView.length_enc RelView.ok_enc RelView.all_get RelView.all_set RelView.arity_get RelView.arity_set RelView.rows_get RelView.rows_set RelView.marks_get RelView.marks_set RelView.indexed_get RelView.indexed_set Index.length_enc Index.ok_enc Index.all_get Index.all_set Index.mask_get Index.mask_set Index.heads_get Index.heads_set Index.next_get Index.next_set
attribute [local go_sem] size_put size_ext blk_put free_put blk_alloc free_alloc blk_drew free_drew blk_ext free_ext lookOr_some putOr_some segAt_some cellAt_some storeIn_some put_put put_alloc_new length_arr ok_arr_u8 ok_arr_u32 ok_arr_u64 ok_arr_i64 ok_arr_sl cellsV_agg cellsV_int cellsV_bool cellsV_string cellsV_pointer cellsV_slice cellsV_sl ok_int ok_bool ok_string ok_pointer ok_slice ok_sl toList_arr seg_arr set_arr nth_splice nth_splice0 seg_splice seg_splice0 splice_splice splice_splice0 length_splice_if
attribute [local go_sem ↓] execOp_box
attribute [local go_sem] box_run nth_arr_u8 put_arr_u8 blk_drewN free_drewN put_drewN blk_raw free_raw
/-- An answer's block, made but not yet written. -/
def Zer (O : Own) (V : World) (b : Nat) : Prop := (∃ fz, V.heap[b]? = some (.cells Answer.zero.enc.toArray 32 fz)) ∧ free V b = true ∧ O b = .no
theorem Zer.blk {O : Own} {V : World} {b : Nat} (h : Zer O V b) : Blk.blk V b = some Answer.zero.enc := by
  obtain ⟨⟨fz, h1⟩, _, _⟩ := h
  unfold Blk.blk
  rw [h1]
theorem Zer.lt {O : Own} {V : World} {b : Nat} (h : Zer O V b) : b < V.heap.size := blk_lt h.blk
theorem Zer.keep {O O' : Own} {V V' : World} {b : Nat} (h : Zer O V b) (hk : KeepNo O V O' V') : Zer O' V' b := by
  have := hk b h.lt h.2.2
  exact ⟨by obtain ⟨fz, h1⟩ := h.1; exact ⟨fz, this.1.trans h1⟩, (free_of_heap this.1).trans h.2.1, this.2⟩
def AnsIn (O : Own) (V : World) (A : Answer) (ts : List Tup) : Prop := ∃ B', RowL B' O .no V 39 4 (Sl.val A.rows) ts.length (ts.flatMap tpl)
theorem AnsIn.keep {O O' : Own} {V V' : World} {A : Answer} {ts : List Tup} (h : AnsIn O V A ts) (hk : KeepNo O V O' V') : AnsIn O' V' A ts := by
  obtain ⟨B', h⟩ := h
  exact ⟨B', hk.row h⟩
/-- Where the law stands between the two plays and their answers' blocks. -/
structure G10 (W1 : World) (B bs bm b6 : Nat) (op : GOp) (st sm : StS) (O : Own) (V : World) (st1 sm2 : StS) (p m : Option (Answer × List Tup)) (o9 o10 : Option Nat) : Prop where
  jm : JM W1 B bs bm O V st1 sm2
  h6 : blk V b6 = some (GOp.enc op) ∧ O b6 = .no
  p0 : p = none → st1 = st
  p1 : ∀ A ts, p = some (A, ts) → PlayR st op st1 A ts ∧ AnsIn O V A ts
  m0 : m = none → sm2 = sm
  m1 : ∀ A ts, m = some (A, ts) → PlayR sm op sm2 A ts ∧ AnsIn O V A ts
  z9 : ∀ b, o9 = some b → Zer O V b ∧ b6 ≠ b
  z10 : ∀ b, o10 = some b → Zer O V b ∧ b6 ≠ b
  ne : ∀ b b', o9 = some b → o10 = some b' → b ≠ b'
theorem g_play {W1 : World} {B bs bm b6 : Nat} {op : GOp} {st sm : StS} {O : Own} {V : World} {st1 : StS} {o9 o10 : Option Nat} (h : G10 W1 B bs bm b6 op st sm O V st1 sm none none o9 o10) (hm : op.mask ≤ 9223372036854775807) (hl : (nmO op).length ≤ 1000000) : Calls Try.prog 14 #[.pointer (some ⟨bs, 0, none⟩), .agg (GOp.enc op).toArray] V fun e V' => ∃ A ts st1' O', e = .returned (.agg (Answer.enc A).toArray) ∧ G10 W1 B bs bm b6 op st sm O' V' st1' sm (some (A, ts)) none o9 o10 := by
  have e1 := h.p0 rfl
  subst e1
  refine (j_play h.jm op hm hl).mono ?_
  rintro e V' ⟨A, rfl, O', st', ts, hJ, hr, hP, hK, hz⟩
  refine ⟨A, ts, st', O', rfl, hJ, ⟨hK.blk h.h6.1 h.h6.2, (hK b6 (blk_lt h.h6.1) h.h6.2).2⟩, (fun h => by cases h), (fun A' ts' e => by injection e with e; injection e with e1 e2; subst e1 e2; exact ⟨hP, _, hr⟩), (fun _ => rfl), (fun A' ts' e => by cases e), fun b e => ⟨(h.z9 b e).1.keep hK, (h.z9 b e).2⟩, fun b e => ⟨(h.z10 b e).1.keep hK, (h.z10 b e).2⟩, h.ne⟩
theorem g_step {W1 : World} {B bs bm b6 : Nat} {op : GOp} {st sm : StS} {O : Own} {V : World} {st1 : StS} {p : Answer × List Tup} {o9 o10 : Option Nat} (h : G10 W1 B bs bm b6 op st sm O V st1 sm (some p) none o9 o10) (hsm : MSm sm) (hl : (nmO op).length ≤ 1000000) : Calls Try.prog 15 #[.pointer (some ⟨bm, 0, none⟩), .agg (GOp.enc op).toArray] V fun e V' => ∃ A ts sm2' O', e = .returned (.agg (Answer.enc A).toArray) ∧ G10 W1 B bs bm b6 op st sm O' V' st1 sm2' (some p) (some (A, ts)) o9 o10 := by
  refine (j_step h.jm hsm op hl).mono ?_
  rintro e V' ⟨A, rfl, O', sm', ts, hJ, hr, hP, hK, hz⟩
  exact ⟨A, ts, sm', O', rfl, hJ, ⟨hK.blk h.h6.1 h.h6.2, (hK b6 (blk_lt h.h6.1) h.h6.2).2⟩, (fun h => by cases h), (fun A' ts' e => ⟨(h.p1 A' ts' e).1, (h.p1 A' ts' e).2.keep hK⟩), (fun h => by cases h), (fun A' ts' e => by injection e with e; injection e with e1 e2; subst e1 e2; exact ⟨hP, _, hr⟩), fun b e => ⟨(h.z9 b e).1.keep hK, (h.z9 b e).2⟩, fun b e => ⟨(h.z10 b e).1.keep hK, (h.z10 b e).2⟩, h.ne⟩
theorem keep_new {O : Own} {V V' : World} (he : V.Extends V') : KeepNo O V (lab O V.heap.size .no) V' := fun k hk ho => ⟨he.block k hk, (lab_lt hk).trans ho⟩
theorem zer_new (O : Own) (V : World) : Zer (lab O V.heap.size .no) (V.alloc (.cells Answer.zero.enc.toArray 32)) V.heap.size := ⟨⟨_, (heap_alloc _ _ _).trans (if_pos rfl)⟩, by unfold free; rw [heap_alloc, if_pos rfl]; rfl, lab_ge (Nat.le_refl _)⟩
theorem g_a9 {W1 : World} {B bs bm b6 : Nat} {op : GOp} {st sm : StS} {O : Own} {V : World} {st1 sm2 : StS} {p m : Option (Answer × List Tup)} {o10 : Option Nat} (h : G10 W1 B bs bm b6 op st sm O V st1 sm2 p m none o10) : G10 W1 B bs bm b6 op st sm (lab O V.heap.size .no) (V.alloc (.cells Answer.zero.enc.toArray 32)) st1 sm2 p m (some V.heap.size) o10 := by
  have hx : V.Extends (V.alloc (.cells Answer.zero.enc.toArray 32)) := extends_alloc (ext_Ext (Ext.refl _)) _
  have hK := keep_new (O := O) hx
  have h6 := blk_lt h.h6.1
  exact ⟨h.jm.new hx, ⟨hK.blk h.h6.1 h.h6.2, (hK b6 h6 h.h6.2).2⟩, h.p0, fun A' ts' e => ⟨(h.p1 A' ts' e).1, (h.p1 A' ts' e).2.keep hK⟩, h.m0, fun A' ts' e => ⟨(h.m1 A' ts' e).1, (h.m1 A' ts' e).2.keep hK⟩, fun b e => by injection e with e; subst e; exact ⟨zer_new O V, Nat.ne_of_lt h6⟩, fun b e => ⟨(h.z10 b e).1.keep hK, (h.z10 b e).2⟩, fun b b' e e' => by injection e with e; subst e; exact Nat.ne_of_gt (h.z10 b' e').1.lt⟩
theorem g_a10 {W1 : World} {B bs bm b6 : Nat} {op : GOp} {st sm : StS} {O : Own} {V : World} {st1 sm2 : StS} {p m : Option (Answer × List Tup)} {o9 : Option Nat} (h : G10 W1 B bs bm b6 op st sm O V st1 sm2 p m o9 none) : G10 W1 B bs bm b6 op st sm (lab O V.heap.size .no) (V.alloc (.cells Answer.zero.enc.toArray 32)) st1 sm2 p m o9 (some V.heap.size) := by
  have hx : V.Extends (V.alloc (.cells Answer.zero.enc.toArray 32)) := extends_alloc (ext_Ext (Ext.refl _)) _
  have hK := keep_new (O := O) hx
  have h6 := blk_lt h.h6.1
  exact ⟨h.jm.new hx, ⟨hK.blk h.h6.1 h.h6.2, (hK b6 h6 h.h6.2).2⟩, h.p0, fun A' ts' e => ⟨(h.p1 A' ts' e).1, (h.p1 A' ts' e).2.keep hK⟩, h.m0, fun A' ts' e => ⟨(h.m1 A' ts' e).1, (h.m1 A' ts' e).2.keep hK⟩, fun b e => ⟨(h.z9 b e).1.keep hK, (h.z9 b e).2⟩, fun b e => by injection e with e; subst e; exact ⟨zer_new O V, Nat.ne_of_lt h6⟩, fun b b' e e' => by injection e' with e'; subst e'; exact Nat.ne_of_lt (h.z9 b e).1.lt⟩
/-- Both answers laid down. -/
def F10 (W1 : World) (B bs bm b6 b9 b10 : Nat) (op : GOp) (st sm : StS) (A A2 : Answer) (V : World) : Prop := ∃ O st1 sm2 ts ts2, JM W1 B bs bm O V st1 sm2 ∧ Eqv st1 sm2 ∧ RowsOk st1 ∧ PlayR st op st1 A ts ∧ PlayR sm op sm2 A2 ts2 ∧ blk V b6 = some (GOp.enc op) ∧ blk V b9 = some (Answer.enc A) ∧ blk V b10 = some (Answer.enc A2) ∧ Rw tpl 4 V A.rows.a A.rows.len ts ∧ Rw tpl 4 V A2.rows.a A2.rows.len ts2 ∧ A2.code = A.code ∧ A2.n = A.n ∧ A2.name = A.name ∧ ts2.Perm ts
theorem put_no {W1 : World} {B bs bm b : Nat} {O : Own} {V : World} {st sm : StS} (h : JM W1 B bs bm O V st sm) (hb : W1.heap.size ≤ b) (ho : O b = .no) (C : List Value) : JM W1 B bs bm O (put V b C) st sm := by
  have hF : Fr (fun l => l = .no) O V O (put V b C) := (Fr.refl _ O V).put ho C
  refine ⟨h.s.fr hF (fun l hl e => by rw [e] at hl; exact not_no hl), h.m.keep (by rw [size_put]; exact Nat.le_refl _) (fun k hk hm => ⟨by rw [heap_put, if_neg (fun e => by rw [e, ho] at hm; exact not_isM_no hm)], rfl⟩), ext_putn h.x hb C, h.no⟩
theorem ans_put {O : Own} {V : World} {A : Answer} {ts : List Tup} (h : AnsIn O V A ts) {b : Nat} (hz : ∃ C fz, V.heap[b]? = some (.cells C 32 fz)) (C : List Value) : AnsIn O (put V b C) A ts := by
  obtain ⟨B', h1, h2⟩ := h
  refine ⟨B', row_keep h1 (fun k hk => ?_), h2⟩
  obtain ⟨_, _, cur, fz, h3⟩ := row_at h1 k hk
  obtain ⟨C', fz', h4⟩ := hz
  rw [heap_put, if_neg (fun e => by rw [e, h4] at h3; injection h3 with h3; injection h3 with _ h3; cases h3)]
theorem ty_put {V : World} {b b' : Nat} {C : List Value} (h : ∃ D fz, V.heap[b']? = some (.cells D 32 fz)) : ∃ D fz, (put V b C).heap[b']? = some (.cells D 32 fz) := by
  obtain ⟨D, fz, h⟩ := h
  rw [heap_put]
  by_cases e : b' = b
  · rw [if_pos e, ← e, h]
    exact ⟨_, _, rfl⟩
  · rw [if_neg e]; exact ⟨D, fz, h⟩
theorem g_fin {W1 : World} {B bs bm b6 : Nat} {op : GOp} {st sm : StS} {O : Own} {V : World} {st1 sm2 : StS} {A A2 : Answer} {ts ts2 : List Tup} {b9 b10 : Nat} (h : G10 W1 B bs bm b6 op st sm O V st1 sm2 (some (A, ts)) (some (A2, ts2)) (some b9) (some b10)) (hE : Eqv st sm) (hR : RowsOk st) (hN : ∀ id, ((rowsS st id).map (·.1)).Nodup) (h9 : W1.heap.size ≤ b9) (h10 : W1.heap.size ≤ b10) : F10 W1 B bs bm b6 b9 b10 op st sm A A2 (put (put V b9 A.enc) b10 A2.enc) := by
  obtain ⟨z9, n9⟩ := h.z9 b9 rfl
  obtain ⟨z10, n10⟩ := h.z10 b10 rfl
  have hne := h.ne b9 b10 rfl rfl
  obtain ⟨hP, hA⟩ := h.p1 A ts rfl
  obtain ⟨hP2, hA2⟩ := h.m1 A2 ts2 rfl
  obtain ⟨hE2, e1, e2, e3, hpm⟩ := play_det hE hN hP hP2
  have t9 : ∃ C fz, V.heap[b9]? = some (.cells C 32 fz) := by obtain ⟨fz, h1⟩ := z9.1; exact ⟨_, fz, h1⟩
  have t10 : ∃ C fz, V.heap[b10]? = some (.cells C 32 fz) := by obtain ⟨fz, h1⟩ := z10.1; exact ⟨_, fz, h1⟩
  have hA' := ans_put (ans_put hA t9 A.enc) (ty_put (C := A.enc) t10) A2.enc
  have hA2' := ans_put (ans_put hA2 t9 A.enc) (ty_put (C := A.enc) t10) A2.enc
  obtain ⟨_, hr⟩ := hA'
  obtain ⟨_, hr2⟩ := hA2'
  refine ⟨O, st1, sm2, ts, ts2, put_no (put_no h.jm h9 z9.2.2 _) h10 z10.2.2 _, hE2, rowsOk_step hR hP, hP, hP2, ?_, ?_, ?_, rows_rw hr, rows_rw hr2, e1, e2, e3, hpm⟩
  · rw [blk_put, if_neg n10, blk_put, if_neg n9]; exact h.h6.1
  · rw [blk_put, if_neg hne, blk_put, if_pos rfl, z9.blk]; rfl
  · rw [blk_put, if_pos rfl, blk_put, if_neg (fun e => hne e.symm), z10.blk]; rfl
theorem F10.ext {W1 : World} {B bs bm b6 b9 b10 : Nat} {op : GOp} {st sm : StS} {A A2 : Answer} {V V' : World} (h : F10 W1 B bs bm b6 b9 b10 op st sm A A2 V) (he : V.Extends V') : F10 W1 B bs bm b6 b9 b10 op st sm A A2 V' := by
  obtain ⟨O, st1, sm2, ts, ts2, h1, h2, h3, h4, h5, h6, h7, h8, h9, h10, h11⟩ := h
  exact ⟨O, st1, sm2, ts, ts2, h1.ext he, h2, h3, h4, h5, (he.blk (blk_lt h6)).trans h6, (he.blk (blk_lt h7)).trans h7, (he.blk (blk_lt h8)).trans h8, h9.ext' he, h10.ext' he, h11⟩
end Go.Proofs.Qxb6500789a
