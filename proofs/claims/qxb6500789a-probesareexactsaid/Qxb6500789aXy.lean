import Derived.Test.Qxb6500789aXx
import Derived.StillTailTactics
import Derived.Deep.QuietTactic
import Derived.BigQuiet
import Derived.Deep.RegionHeld
import Derived.Deep.CutRange
import Derived.Laws.ResultCell
import Derived.Laws.Rows
import Derived.DeepKeys
import Derived.DataBytes
import Derived.Laws.StructEq
import Derived.Laws.AppendOwn
import Derived.Laws.MakeOwn
import Derived.Lib.AppendStr
set_option linter.unusedSimpArgs false
set_option linter.unusedVariables false
namespace Go.Proofs.Qxb6500789a
open Go.RowKit Go.Blk
attribute [local go_sem ↓] execOp_load execOp_store execOp_alloc
attribute [local go_sem] Try.ld29 Try.st29 Try.ld3 Try.st3 Try.ld9 Try.st9 Try.ld30 Try.st30 Try.ld34 Try.st34 Try.ld35 Try.st35 Try.ld36 Try.st36 Try.ld37 Try.st37 Try.ld44 Try.st44 Try.ld45 Try.st45 Try.ld54 Try.st54 Try.ld55 Try.st55 Try.ld74 Try.st74 Try.ld80 Try.st80 Try.ld84 Try.st84 Try.ld106 Try.st106 Try.ld107 Try.st107 Try.ld4 Try.st4 Try.ld121 Try.st121 Try.ld2 Try.st2 Try.ld5 Try.st5 Try.ld12 Try.st12 Try.ld21 Try.st21 Try.ld22 Try.st22 Try.ld24 Try.st24 Try.ld26 Try.st26 Try.ld63 Try.st63 Try.ld71 Try.st71 Try.ld103 Try.st103 Try.ld130 Try.st130 Try.ld133 Try.st133 Try.ld140 Try.st140 Try.ld152 Try.st152 Try.ld39 Try.st39 Try.ld32 Try.st32 Try.ld41 Try.st41 Try.ld47 Try.st47 Try.ld57 Try.st57 Try.ld62 Try.st62 Try.ld76 Try.st76 Try.ld82 Try.st82 Try.ld86 Try.st86 Try.ld109 Try.st109 Try.ld115 Try.st115 Try.ld123 Try.st123 Try.ld135 Try.st135 Try.al39 Try.al32 Try.al41 Try.al47 Try.al57 Try.al62 Try.al76 Try.al82 Try.al86 Try.al109 Try.al115 Try.al123 Try.al135
attribute [local go_sem] Answer.length_enc Answer.ok_enc Answer.all_get Answer.all_set Answer.code_get Answer.code_set Answer.n_get Answer.n_set Answer.name_get Answer.name_set Answer.rows_get Answer.rows_set GOp.length_enc GOp.ok_enc GOp.all_get GOp.all_set GOp.kind_get GOp.kind_set GOp.rel_get GOp.rel_set GOp.mask_get GOp.mask_set GOp.t_get GOp.t_set GOp.n_get GOp.n_set GOp.name_get GOp.name_set Store.length_enc Store.ok_enc Store.all_get Store.all_set Store.names_get Store.names_set Store.rels_get Store.rels_set GRel.length_enc GRel.ok_enc GRel.all_get GRel.all_set GRel.arity_get GRel.arity_set GRel.masks_get GRel.masks_set GRel.rows_get GRel.rows_set Row.length_enc Row.ok_enc Row.all_get Row.all_set Row.t_get Row.t_set Row.mark_get Row.mark_set View.length_enc View.ok_enc View.all_get View.all_set View.names_get View.names_set View.rels_get View.rels_set Symtab.length_enc Symtab.ok_enc Symtab.all_get Symtab.all_set Symtab.names_get Symtab.names_set Symtab.table_get Symtab.table_set StoreTuplestore.length_enc StoreTuplestore.ok_enc StoreTuplestore.all_get StoreTuplestore.all_set StoreTuplestore.syms_get StoreTuplestore.syms_set StoreTuplestore.rels_get StoreTuplestore.rels_set StoreTuplestore.syms_names_get StoreTuplestore.syms_names_set StoreTuplestore.syms_table_get StoreTuplestore.syms_table_set Relation.length_enc Relation.ok_enc Relation.all_get Relation.all_set Relation.arity_get Relation.arity_set Relation.slots_get Relation.slots_set Relation.live_get Relation.live_set Relation.idx_get Relation.idx_set Slot.length_enc Slot.ok_enc Slot.all_get Slot.all_set Slot.t_get Slot.t_set Slot.mark_get Slot.mark_set Slot.live_get Slot.live_set RelView.length_enc RelView.ok_enc RelView.all_get RelView.all_set RelView.arity_get RelView.arity_set RelView.rows_get RelView.rows_set RelView.marks_get RelView.marks_set RelView.indexed_get RelView.indexed_set Index.length_enc Index.ok_enc Index.all_get Index.all_set Index.mask_get Index.mask_set Index.heads_get Index.heads_set Index.next_get Index.next_set
attribute [local go_sem] size_put size_ext blk_put free_put blk_alloc free_alloc blk_drew free_drew blk_ext free_ext lookOr_some putOr_some segAt_some cellAt_some storeIn_some put_put put_alloc_new length_arr ok_arr_u8 ok_arr_u32 ok_arr_u64 ok_arr_i64 ok_arr_sl cellsV_agg cellsV_int cellsV_bool cellsV_string cellsV_pointer cellsV_slice cellsV_sl ok_int ok_bool ok_string ok_pointer ok_slice ok_sl toList_arr seg_arr set_arr nth_splice nth_splice0 seg_splice seg_splice0 splice_splice splice_splice0 length_splice_if
attribute [local go_sem ↓] execOp_box
attribute [local go_sem] box_run nth_arr_u8 put_arr_u8 blk_drewN free_drewN put_drewN blk_raw free_raw
/-- A relation's cells. -/
structure RelD where
  ar : Int
  sa : Option Addr
  sn : Nat
  sc : Nat
  lv : Int
  ia : Option Addr
  iN : Nat
  ic : Nat
def RelD.enc (d : RelD) : List Value := relE d.ar d.sa d.sn d.sc d.lv d.ia d.iN d.ic
theorem RelD.len (d : RelD) : d.enc.length = 4 := rfl
theorem RelD.one (d : RelD) : d.enc.all (fun v => v.oneCell') = true := rfl
/-- A relation, plain: arity, slots, masks of its indexes. -/
structure RelS where
  ar : Nat
  L : List Slot
  M : List Nat
structure StS where
  names : List (List UInt8)
  rels : List RelS
def RelOk (B : Nat) (O : Own) (W : World) (i : Nat) (d : RelD) (s : RelS) : Prop := d.ar = (s.ar : Int) ∧ d.lv = ((liveL s.L).length : Int) ∧ ∃ K, RelIn B O W i d.sa d.sn d.sc d.ia d.iN d.ic s.L K ∧ K.map (·.m) = s.M ∧ RInv s.ar s.L K
def StAt (B : Nat) (O : Own) (W : World) (bs : Nat) (st : StS) : Prop := ∃ ra rn rc, ∃ R : List RelD, SymSt B O W bs st.names ra rn rc ∧ RowL B O .rels W 109 4 (.slice ra rn rc) R.length (R.flatMap RelD.enc) ∧ R.length = st.rels.length ∧ st.rels.length ≤ 192 ∧ B ≤ W.heap.size ∧ ∀ (i : Nat) (d : RelD) (s : RelS), R[i]? = some d → st.rels[i]? = some s → RelOk B O W i d s
def isSt (l : Lab) : Prop := l ≠ .no ∧ ∀ n, l ≠ .cl n
/-- What the store's calls leave alone: what is not theirs. -/
structure FrS (O : Own) (W : World) (O' : Own) (W' : World) : Prop where
  os : W'.os = W.os
  tape : W'.tape = W.tape
  output : W'.output = W.output
  size : W.heap.size ≤ W'.heap.size
  keep : ∀ k, k < W.heap.size → ¬ isSt (O k) → O' k = O k ∧ W'.heap[k]? = W.heap[k]?
theorem FrS.trans {O O' O'' : Own} {W W' W'' : World} (h : FrS O W O' W') (h' : FrS O' W' O'' W'') : FrS O W O'' W'' :=
  ⟨h'.os.trans h.os, h'.tape.trans h.tape, h'.output.trans h.output, Nat.le_trans h.size h'.size, fun k hk hn => by
    obtain ⟨h1, h2⟩ := h.keep k hk hn
    obtain ⟨h3, h4⟩ := h'.keep k (Nat.lt_of_lt_of_le hk h.size) (by rw [h1]; exact hn)
    exact ⟨h3.trans h1, h4.trans h2⟩⟩
theorem Fr.toS {L : Lab → Prop} {O O' : Own} {W W' : World} (h : Fr L O W O' W') (hL : ∀ l, L l → isSt l) : FrS O W O' W' := ⟨h.os, h.tape, h.output, h.size, fun k hk hn => ⟨h.keep k hk, h.block k hk (fun hl => hn (hL _ hl))⟩⟩
theorem FrS.of_extends {O : Own} {W W' : World} (h : W.Extends W') : FrS O W O W' := ⟨h.os, h.tape, h.output, h.size, fun k hk _ => ⟨rfl, h.block k hk⟩⟩
theorem isSt_relR {i : Nat} {l : Lab} (h : isRelR i .rels l) : isSt l := by
  rcases h with rfl | rfl | rfl | ⟨j, rfl⟩ | ⟨j, rfl⟩ <;> exact ⟨(by intro e; cases e), (fun n e => by cases e)⟩
theorem isSt_sym {l : Lab} (h : isSym l) : isSt l := by
  rcases h with rfl | rfl | rfl <;> exact ⟨(by intro e; cases e), (fun n e => by cases e)⟩
theorem SymSt.fr {L : Lab → Prop} {B : Nat} {O O' : Own} {W W' : World} {bs : Nat} {names : List (List UInt8)} {ra : Option Addr} {rn rc : Nat} (h : SymSt B O W bs names ra rn rc) (hf : Fr L O W O' W') (hl : ∀ l, isSym l → ¬ L l) : SymSt B O' W' bs names ra rn rc := by
  obtain ⟨T, na, nn, nc, ta, tn, tc, ⟨h1, h2, h3, h4, h5, h6⟩, hN⟩ := h
  refine ⟨T, na, nn, nc, ta, tn, tc, ⟨hf.blk h1 (by rw [h3]; exact hl _ (.inl rfl)), hf.free h1 h2 (by rw [h3]; exact hl _ (.inl rfl)), (hf.keep bs (blk_lt h1)).trans h3, h4.fr hf (hl _ (.inr (.inl rfl))), h5.fr hf (hl _ (.inr (.inr rfl))), h6⟩, hN⟩
theorem RelOk.fr {L : Lab → Prop} {B : Nat} {O O' : Own} {W W' : World} {i : Nat} {d : RelD} {s : RelS} (h : RelOk B O W i d s) (hf : Fr L O W O' W') (hl : ∀ l, isRel i l → ¬ L l) : RelOk B O' W' i d s := by
  obtain ⟨h1, h2, K, h3, h4, h5⟩ := h
  exact ⟨h1, h2, K, h3.fr hf hl, h4, h5⟩
theorem StAt.fr {L : Lab → Prop} {B : Nat} {O O' : Own} {W W' : World} {bs : Nat} {st : StS} (h : StAt B O W bs st) (hf : Fr L O W O' W') (hl : ∀ l, isSt l → ¬ L l) : StAt B O' W' bs st := by
  obtain ⟨ra, rn, rc, R, h1, h2, h3, h4, h5, h6⟩ := h
  refine ⟨ra, rn, rc, R, h1.fr hf (fun l h => hl l (isSt_sym h)), h2.fr hf (hl _ ⟨(by intro e; cases e), (fun n e => by cases e)⟩), h3, h4, Nat.le_trans h5 hf.size, fun i d s hd hs => (h6 i d s hd hs).fr hf (fun l h => hl l (isSt_relR (i := i) (.inr h)))⟩
theorem StAt.ext {B : Nat} {O : Own} {W W' : World} {bs : Nat} {st : StS} (h : StAt B O W bs st) (he : W.Extends W') : StAt B O W' bs st := h.fr (L := fun _ => False) (Fr.of_extends he) (fun _ _ h => h)
theorem relAt_of {C : List Value} {o : Nat} {d : RelD} (h : seg C o 4 = d.enc) (hl : o + 4 ≤ C.length) : RelAt C o d.ar d.sa d.sn d.sc d.lv d.ia d.iN d.ic :=
  ⟨hl, nth_in (j := 0) h rfl (by omega), nth_in (j := 1) h rfl (by omega), nth_in (j := 2) h rfl (by omega), nth_in (j := 3) h rfl (by omega)⟩
theorem relAt_seg {C : List Value} {o : Nat} {ar : Int} {sa : Option Addr} {sn sc : Nat} {lv : Int} {ia : Option Addr} {iN ic : Nat} (h : RelAt C o ar sa sn sc lv ia iN ic) : seg C o 4 = relE ar sa sn sc lv ia iN ic := by
  obtain ⟨h0, h1, h2, h3, h4⟩ := h
  apply List.ext_getElem?
  intro r
  rw [seg_nth]
  by_cases hr : r < 4
  · rw [if_pos hr]
    have h : r = 0 ∨ r = 1 ∨ r = 2 ∨ r = 3 := by omega
    rcases h with rfl | rfl | rfl | rfl
    · exact h1
    · exact h2
    · exact h3
    · exact h4
  · rw [if_neg hr, List.getElem?_eq_none (by show 4 ≤ r; omega)]
/-- Relation number i, opened; and how it is shut again. -/
theorem stat_open {B : Nat} {O : Own} {W : World} {bs : Nat} {st : StS} (h : StAt B O W bs st) {i : Nat} {s : RelS} (hs : st.rels[i]? = some s) :
    ∃ (gr rn rc : Nat) (Cr : List Value) (K : List IxD), SymSt B O W bs st.names (some ⟨gr, 0, none⟩) rn rc ∧ i < rn ∧ rn = st.rels.length ∧ RelSt B O W gr (i * 4) 109 i s.ar s.L K Cr ∧ O gr = .rels ∧ RInv s.ar s.L K ∧ K.map (·.m) = s.M ∧ B ≤ W.heap.size ∧
      ∀ O' W' Cr' L' K', Fr (isRelR i .rels) O W O' W' → RelSt B O' W' gr (i * 4) 109 i s.ar L' K' Cr' → RelCh Cr Cr' (i * 4) → RInv s.ar L' K' → StAt B O' W' bs ⟨st.names, st.rels.set i ⟨s.ar, L', K'.map (·.m)⟩⟩ := by
  obtain ⟨ra, rn, rc, R, h1, h2, h3, h4, h5, h6⟩ := h
  have hi : i < st.rels.length := (List.getElem?_eq_some_iff.1 hs).1
  obtain ⟨d, hd⟩ : ∃ d, R[i]? = some d := ⟨_, List.getElem?_eq_getElem (by omega)⟩
  have hRn : R.length = rn := (h2.rw RelD.len).1.1
  obtain ⟨gr, Cr, e1, e2, e3, e4, e5, e6, e7, e8⟩ := h2.openT RelD.len (by omega)
  subst e1
  obtain ⟨g1, g2, K, g3, g4, g5⟩ := h6 i d s hd hs
  have hle : (i + 1) * 4 ≤ rn * 4 := Nat.mul_le_mul_right _ (by omega)
  have hat := relAt_of (e7 i d hd) (by omega)
  rw [g1, g2] at hat
  refine ⟨gr, rn, rc, Cr, K, h1, by omega, by omega, ⟨d.sa, d.sn, d.sc, d.ia, d.iN, d.ic, e2, hat, g3⟩, e4, g5, g4, h5, fun O' W' Cr' L' K' hF hSt hCh hV => ?_⟩
  obtain ⟨sa, sn, sc, ia, iN, ic, hty, hR, hI⟩ := hSt
  have hog : O' gr = .rels := (hF.keep gr (Array.getElem?_eq_some_iff.1 e2).1).trans e4
  refine ⟨some ⟨gr, 0, none⟩, rn, rc, R.set i ⟨(s.ar : Int), sa, sn, sc, ((liveL L').length : Int), ia, iN, ic⟩, h1.fr hF ?_, ?_, by simp [h3], by simpa using h4, Nat.le_trans h5 hF.size, ?_⟩
  · rintro l (rfl | rfl | rfl) (e | e | e | ⟨j, e⟩ | ⟨j, e⟩) <;> cases e
  · refine e8 O' W' Cr' _ hty hCh.1 (by simp) (fun j x hx => ?_) hog
    rw [List.getElem?_set] at hx
    by_cases hij : i = j
    · subst hij
      rw [if_pos rfl, if_pos (by omega)] at hx
      rw [relAt_seg hR, ← Option.some.inj hx]; rfl
    · rw [if_neg hij] at hx
      rw [hCh.2 (j * 4) 4 (by omega)]
      exact e7 j x hx
  · intro j d' s' hd' hs'
    rw [List.getElem?_set] at hd' hs'
    by_cases hij : i = j
    · subst hij
      rw [if_pos rfl, if_pos (by omega)] at hd'
      rw [if_pos rfl, if_pos hi] at hs'
      rw [← Option.some.inj hd', ← Option.some.inj hs']
      exact ⟨rfl, rfl, K', hI, rfl, hV⟩
    · rw [if_neg hij] at hd' hs'
      refine (h6 j d' s' hd' hs').fr hF ?_
      rintro l (rfl | rfl | ⟨j', rfl⟩ | ⟨j', rfl⟩) (e | e | e | ⟨j2, e⟩ | ⟨j2, e⟩) <;> first | (cases e; exact hij rfl) | cases e
end Go.Proofs.Qxb6500789a
