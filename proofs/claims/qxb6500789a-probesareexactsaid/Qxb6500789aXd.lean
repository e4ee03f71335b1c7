import Derived.Test.Qxb6500789aXc
import Derived.StillTailTactics
import Derived.Deep.QuietTactic
import Derived.BigQuiet
import Derived.Deep.RegionHeld
import Derived.Deep.CutRange
import Derived.Laws.ResultCell
import Derived.Laws.Rows
import Derived.DeepKeys
import Derived.DataBytes
import Derived.Laws.StructEq
import Derived.Laws.AppendOwn
import Derived.Laws.MakeOwn
import Derived.Lib.AppendStr
set_option linter.unusedSimpArgs false
set_option linter.unusedVariables false
namespace Go.Proofs.Qxb6500789a
open Go.RowKit Go.Blk
attribute [local go_sem ↓] execOp_load execOp_store execOp_alloc
attribute [local go_sem] Try.ld29 Try.st29 Try.ld3 Try.st3 Try.ld9 Try.st9 Try.ld30 Try.st30 Try.ld34 Try.st34 Try.ld35 Try.st35 Try.ld36 Try.st36 Try.ld37 Try.st37 Try.ld44 Try.st44 Try.ld45 Try.st45 Try.ld54 Try.st54 Try.ld55 Try.st55 Try.ld74 Try.st74 Try.ld80 Try.st80 Try.ld84 Try.st84 Try.ld106 Try.st106 Try.ld107 Try.st107 Try.ld4 Try.st4 Try.ld121 Try.st121 Try.ld2 Try.st2 Try.ld5 Try.st5 Try.ld12 Try.st12 Try.ld21 Try.st21 Try.ld22 Try.st22 Try.ld24 Try.st24 Try.ld26 Try.st26 Try.ld63 Try.st63 Try.ld71 Try.st71 Try.ld103 Try.st103 Try.ld130 Try.st130 Try.ld133 Try.st133 Try.ld140 Try.st140 Try.ld152 Try.st152 Try.ld39 Try.st39 Try.ld32 Try.st32 Try.ld41 Try.st41 Try.ld47 Try.st47 Try.ld57 Try.st57 Try.ld62 Try.st62 Try.ld76 Try.st76 Try.ld82 Try.st82 Try.ld86 Try.st86 Try.ld109 Try.st109 Try.ld115 Try.st115 Try.ld123 Try.st123 Try.ld135 Try.st135 Try.al39 Try.al32 Try.al41 Try.al47 Try.al57 Try.al62 Try.al76 Try.al82 Try.al86 Try.al109 Try.al115 Try.al123 Try.al135
attribute [local go_sem] Answer.length_enc Answer.ok_enc Answer.all_get Answer.all_set Answer.code_get Answer.code_set Answer.n_get Answer.n_set Answer.name_get Answer.name_set Answer.rows_get Answer.rows_set GOp.length_enc GOp.ok_enc GOp.all_get GOp.all_set GOp.kind_get GOp.kind_set GOp.rel_get GOp.rel_set GOp.mask_get GOp.mask_set GOp.t_get GOp.t_set GOp.n_get GOp.n_set GOp.name_get GOp.name_set Store.length_enc Store.ok_enc Store.all_get Store.all_set Store.names_get Store.names_set Store.rels_get Store.rels_set GRel.length_enc GRel.ok_enc GRel.all_get GRel.all_set GRel.arity_get GRel.arity_set GRel.masks_get GRel.masks_set GRel.rows_get GRel.rows_set Row.length_enc Row.ok_enc Row.all_get Row.all_set Row.t_get Row.t_set Row.mark_get Row.mark_set View.length_enc View.ok_enc View.all_get View.all_set View.names_get View.names_set View.rels_get View.rels_set Symtab.length_enc Symtab.ok_enc Symtab.all_get Symtab.all_set Symtab.names_get Symtab.names_set Symtab.table_get Symtab.table_set StoreTuplestore.length_enc StoreTuplestore.ok_enc StoreTuplestore.all_get StoreTuplestore.all_set StoreTuplestore.syms_get StoreTuplestore.syms_set StoreTuplestore.rels_get StoreTuplestore.rels_set StoreTuplestore.syms_names_get StoreTuplestore.syms_names_set StoreTuplestore.syms_table_get StoreTuplestore.syms_table_set Relation.length_enc Relation.ok_enc Relation.all_get Relation.all_set Relation.arity_get Relation.arity_set Relation.slots_get Relation.slots_set Relation.live_get Relation.live_set Relation.idx_get Relation.idx_set Slot.length_enc Slot.ok_enc Slot.all_get Slot.all_set Slot.t_get Slot.t_set Slot.mark_get Slot.mark_set Slot.live_get Slot.live_set RelView.length_enc RelView.ok_enc RelView.all_get RelView.all_set RelView.arity_get RelView.arity_set RelView.rows_get RelView.rows_set RelView.marks_get RelView.marks_set RelView.indexed_get RelView.indexed_set Index.length_enc Index.ok_enc Index.all_get Index.all_set Index.mask_get Index.mask_set Index.heads_get Index.heads_set Index.next_get Index.next_set
attribute [local go_sem] size_put size_ext blk_put free_put blk_alloc free_alloc blk_drew free_drew blk_ext free_ext lookOr_some putOr_some segAt_some cellAt_some storeIn_some put_put put_alloc_new length_arr ok_arr_u8 ok_arr_u32 ok_arr_u64 ok_arr_i64 ok_arr_sl cellsV_agg cellsV_int cellsV_bool cellsV_string cellsV_pointer cellsV_slice cellsV_sl ok_int ok_bool ok_string ok_pointer ok_slice ok_sl toList_arr seg_arr set_arr nth_splice nth_splice0 seg_splice seg_splice0 splice_splice splice_splice0 length_splice_if
attribute [local go_sem ↓] execOp_box
attribute [local go_sem] box_run nth_arr_u8 put_arr_u8 blk_drewN free_drewN put_drewN blk_raw free_raw
def SymOk (B : Nat) (O : Own) (W : World) (bs : Nat) (names : List (List UInt8)) (T : List Nat) (na : Option Addr) (nn nc : Nat) (ta : Option Addr) (tn tc : Nat) (ra : Option Addr) (rn rc : Nat) : Prop :=
  blk W bs = some (stE na nn nc ta tn tc ra rn rc) ∧ free W bs = true ∧ O bs = .st ∧ RowL B O .names W 9 1 (.slice na nn nc) names.length (names.flatMap encS) ∧ RowL B O .table W 3 1 (.slice ta tn tc) T.length (T.flatMap encK) ∧ B ≤ bs
def isSym (l : Lab) : Prop := l = .st ∨ l = .names ∨ l = .table
def knowsF (n : Nat) (y : Int) : Bool := decide (0 ≤ y) && decide (y < (n : Int))
attribute [local go_sem] st_len st0 st1 st2 st_set0 st_set1 st_set2
set_option maxRecDepth 20000 in
theorem knows_any (W : World) (bs : Nat) (na : Option Addr) (nn nc : Nat) (ta : Option Addr) (tn tc : Nat) (ra : Option Addr) (rn rc : Nat) (hb : blk W bs = some (stE na nn nc ta tn tc ra rn rc)) (y : Int) : Calls Try.prog 57 #[.pointer (some ⟨bs, 0, none⟩), .int .i64 y] W fun e W' => e = .returned (.bool (knowsF nn y)) ∧ W' = W := by
  by_cases h0 : 0 ≤ y
  · by_cases h1 : y < (nn : Int)
    · have e : knowsF nn y = true := by simp [knowsF, h0, h1]
      rw [e]
      clear e
      go_enter Try.func57, Try.ntmps57
      go_wp2_with fail
      go_ret
      exact ⟨rfl, rfl⟩
    · have e : knowsF nn y = false := by simp [knowsF, h1]
      rw [e]
      clear e
      go_enter Try.func57, Try.ntmps57
      go_wp2_with fail
      go_ret
      exact ⟨rfl, rfl⟩
  · have e : knowsF nn y = false := by simp [knowsF, h0]
    rw [e]
    clear e
    go_enter Try.func57, Try.ntmps57
    go_wp2_with fail
    go_ret
    exact ⟨rfl, rfl⟩
def zerosK (c : Nat) : Array Value := ((List.replicate c 0).flatMap encK).toArray
theorem flat_rep (c : Nat) : (List.replicate c 0).flatMap encK = List.replicate c (.int .i64 0) := by
  induction c with
  | zero => rfl
  | succ c ih => rw [List.replicate_succ, List.flatMap_cons, ih, List.replicate_succ]; rfl
theorem made_zerosK (c : Nat) : madeCells (Value.int .i64 0).cells c = zerosK c := by
  unfold zerosK
  rw [flat_rep]
  apply Array.ext
  · simp [madeCells]
  · intro i h1 h2
    simp [madeCells, Value.cells]
    rw [Nat.mod_one]
    rfl
theorem info3z : ∃ i, Try.prog.info? 3 = some i ∧ i.zero = some (.int .i64 0) ∧ i.size = 1 ∧ i.bytes = 8 := by
  have hq : (Try.prog.info? 3).map (fun i => (i.zero, i.size, i.bytes)) = some (some (.int .i64 0), 1, 8) := by kernel_rfl
  cases hx : Try.prog.info? 3 with
  | none => rw [hx] at hq; simp at hq
  | some i =>
    rw [hx] at hq
    simp only [Option.map_some, Option.some.injEq, Prod.mk.injEq] at hq
    exact ⟨i, rfl, hq.1, hq.2.1, hq.2.2⟩
theorem make80 (w : World) (c : Nat) (hc : c ≤ 35184372088832) : (makeOp 80 (.int .i64 (c : Int)) (.int .i64 (c : Int))).run Try.prog w = .ok (.value (.slice (some ⟨w.heap.size, 0, none⟩) c c)) (w.alloc (.cells (zerosK c) 3)) := by
  obtain ⟨i, hi, hz, hsz, hby⟩ := info3z
  have hr := run_make (P := Try.prog) w 80 3 i _ Try.underlying80 hi hz .i64 .i64 (c : Int) (c : Int) (by omega) (by omega) (by rw [hby]; omega) (by omega)
  unfold makeOp
  rw [Sem.run_bind, hr, hsz, Int.toNat_natCast, Nat.mul_one, made_zerosK]
  rfl
theorem made_rowL (B : Nat) (O : Own) (l : Lab) (W : World) (c : Nat) (hB : B ≤ W.heap.size) (hc : c ≤ 35184372088832) : RowL B (lab O W.heap.size l) l (W.alloc (.cells (zerosK c) 3)) 3 1 (.slice (some ⟨W.heap.size, 0, none⟩) c c) (List.replicate c 0).length ((List.replicate c 0).flatMap encK) := by
  refine ⟨⟨by rw [flat_rep]; simp, .inr ⟨W.heap.size, c, zerosK c, by simp, hB, (heap_alloc _ _ _).trans (if_pos rfl), by simp, by simp only [maxLen]; omega, by unfold zerosK; rw [flat_rep]; simp, ?_⟩⟩, fun k hk => ?_⟩
  · unfold zerosK
    rw [flat_rep]; simp
  · simp [Value.ownBlock] at hk
    rw [← hk]; exact lab_ge (Nat.le_refl _)
def GrowPost (B : Nat) (O : Own) (W : World) (bs : Nat) (names : List (List UInt8)) (na : Option Addr) (nn nc t2 : Nat) (ra : Option Addr) (rn rc : Nat) (e : Ending) (W' : World) : Prop := e = .returned (.tuple #[]) ∧ ∃ O' T' ta', Fr isSym O W O' W' ∧ SymOk B O' W' bs names T' na nn nc ta' t2 t2 ra rn rc ∧ TInv names T' ∧ T'.length = t2
def grQ (B : Nat) (O0 : Own) (W0 : World) (bs : Nat) (names : List (List UInt8)) (i : Nat) (na : Option Addr) (nn nc : Nat) (ta : Option Addr) (tn tc : Nat) (ra : Option Addr) (rn rc : Nat) (W : World) : Prop := ∃ O T, Fr isSym O0 W0 O W ∧ SymOk B O W bs names T na nn nc ta tn tc ra rn rc ∧ TInv (names.take i) T
def grI (B : Nat) (O0 : Own) (W0 : World) (bs : Nat) (names : List (List UInt8)) (na : Option Addr) (nn nc : Nat) (ta : Option Addr) (tn tc : Nat) (ra : Option Addr) (rn rc : Nat) (f : Nat → Value) (W : World) : Prop := f 0 = .pointer (some ⟨bs, 0, none⟩) ∧ ∃ i : Nat, i ≤ nn ∧ f 2 = .int .i64 (i : Nat) ∧ Hid (grQ B O0 W0 bs names i na nn nc ta tn tc ra rn rc W)
set_option maxRecDepth 100000 in
theorem frame38 (f : Nat → Value) : frameN 38 f = #[f 0, f 1, f 2, f 3, f 4, f 5, f 6, f 7, f 8, f 9, f 10, f 11, f 12, f 13, f 14, f 15, f 16, f 17, f 18, f 19, f 20, f 21, f 22, f 23, f 24, f 25, f 26, f 27, f 28, f 29, f 30, f 31, f 32, f 33, f 34, f 35, f 36, f 37] := by kernel_rfl
theorem tab_put {B : Nat} {O : Own} {W : World} {l : Lab} {ta : Option Addr} {tn tc : Nat} {T : List Nat} (h : RowL B O l W 3 1 (.slice ta tn tc) T.length (T.flatMap encK)) (hn : 0 < tn) {p v : Nat} (hp : p < tn) : ∃ g C, ta = some ⟨g, 0, none⟩ ∧ blk W g = some C ∧ free W g = true ∧ O g = l ∧ B ≤ g ∧ p + 1 ≤ C.length ∧ RowL B O l (put W g (splice C p [.int .i64 (v : Int)])) 3 1 (.slice ta tn tc) (T.set p v).length ((T.set p v).flatMap encK) := by
  obtain ⟨g, C, e1, e2, e3, e4, e5, e6, e7, e8, e9⟩ := h.open encK_len hn
  refine ⟨g, C, e1, e2, e3, e5, e6, by omega, e9 _ _ (length_splice1 (by omega)) (by simp) (fun i x hx => ?_)⟩
  rw [Nat.mul_one]
  rw [List.getElem?_set] at hx
  have hil : i < C.length := by
    have : i < T.length := by
      by_cases hpi : p = i
      · omega
      · rw [if_neg hpi] at hx; exact (List.getElem?_eq_some_iff.1 hx).1
    omega
  by_cases hpi : p = i
  · subst hpi
    rw [if_pos rfl, if_pos (by omega)] at hx
    have s1 := seg_splice_in (C := C) (p := p) (n := 1) (D := seg C p 1) (j := 0) (v := .int .i64 (v : Int)) rfl (by omega) (by omega)
    rw [Nat.add_zero] at s1
    rw [s1, ← Option.some.inj hx]
    have hl1 : (seg C p 1).length = 1 := by unfold seg; rw [List.length_take, List.length_drop]; omega
    match h1 : seg C p 1, hl1 with
    | [y], _ => rfl
  · rw [if_neg hpi] at hx
    rw [seg_splice_off (by omega) (by omega)]
    have := e8 i x hx
    rwa [Nat.mul_one] at this
attribute [local go_sem ↓] execOp_make
set_option maxRecDepth 20000 in
set_option maxHeartbeats 2000000 in
theorem grow_any (B : Nat) (O : Own) (W : World) (bs : Nat) (na : Option Addr) (nn nc : Nat) (ta : Option Addr) (tn tc : Nat) (ra : Option Addr) (rn rc : Nat) (names : List (List UInt8)) (T : List Nat) (hS : SymOk B O W bs names T na nn nc ta tn tc ra rn rc) (hI : TInv names T) (h512 : tn ≤ 512) (hB : B ≤ W.heap.size) (hnl : ∀ nm ∈ names, nm.length ≤ 1000000) :
    Calls Try.prog 80 #[.pointer (some ⟨bs, 0, none⟩)] W (GrowPost B O W bs names na nn nc (2 * tn) ra rn rc) := by
  obtain ⟨hb, hf, hob, hN, hT, hBb⟩ := hS
  have HN0 : Hid (RowL B O .names W 9 1 (.slice na nn nc) names.length (names.flatMap encS)) := hN
  have hnm := (hN.rw encS_len).1
  have hTr := (hT.rw encK_len).1
  have hNL : names.length = nn := hnm.1
  have hTL : T.length = tn := hTr.1
  obtain ⟨j, hj, hj4, hj20⟩ := hI.pow
  have hj9 : j ≤ 9 := by
    rcases Nat.lt_or_ge 9 j with h | h
    · have := Nat.pow_le_pow_right (n := 2) (by decide) h
      omega
    · exact h
  have hnn : nn ≤ 1000 := by have := hI.half; omega
  have ht16 : 16 ≤ tn := by have := hI.pos.1; omega
  obtain ⟨t2, ht2⟩ : ∃ t2, t2 = 2 * tn := ⟨_, rfl⟩
  have hpow2 : t2 = 2 ^ (j + 1) := by rw [ht2, ← hTL, hj, Nat.pow_succ]; omega
  have HP2 : Hid (t2 = 2 ^ (j + 1)) := hpow2
  have HND : Hid names.Nodup := hI.nodup
  have HNL : Hid (names.length = nn) := hNL
  have HNM : Hid (∀ nm ∈ names, nm.length ≤ 1000000) := hnl
  have HT2 : Hid (t2 = 2 * tn) := ht2
  have HH : Hid (2 * names.length ≤ tn) := by show _ ≤ _; rw [← hTL]; exact hI.half
  have e1 : IntKind.i64.wrap (2 * (tn : Int)) = (t2 : Int) := by rw [IntKind.wrap_i64]; omega
  have m1 := fun w : World => make80 w t2 (by omega)
  have lb := blk_lt hb
  have nb : ¬ bs = W.heap.size := by omega
  rw [← ht2]
  clear hnm hTr hT hTL hNL hnl hpow2 ht2 hI hN
  have H0 : Hid (grQ B O W bs names 0 na nn nc (some ⟨W.heap.size, 0, none⟩) t2 t2 ra rn rc (put (W.alloc (.cells (zerosK t2) 3)) bs (stE na nn nc (some ⟨W.heap.size, 0, none⟩) t2 t2 ra rn rc))) := by
    have hx : W.Extends (W.alloc (.cells (zerosK t2) 3)) := extends_alloc (ext_Ext (Ext.refl _)) _
    have hbk : ∀ k, k ≠ bs → (put (W.alloc (.cells (zerosK t2) 3)) bs (stE na nn nc (some ⟨W.heap.size, 0, none⟩) t2 t2 ra rn rc)).heap[k]? = (W.alloc (.cells (zerosK t2) 3)).heap[k]? := fun k hk => by rw [heap_put, if_neg hk]
    refine ⟨lab O W.heap.size .table, List.replicate t2 0, ?_, ⟨?_, ?_, ?_, ?_, ?_, hBb⟩, ?_⟩
    · refine Fr.put (L := isSym) (O' := lab O W.heap.size .table) ⟨hx.os, hx.tape, hx.output, hx.size, fun k hk => lab_lt hk, fun k hk _ => hx.block k hk⟩ ?_ _
      rw [lab_lt lb, hob]; exact .inl rfl
    · rw [blk_put, if_pos rfl, hx.blk lb, hb]; rfl
    · rw [free_put, free_of_heap (hx.block bs lb)]; exact hf
    · rw [lab_lt lb]; exact hob
    · exact HN0.out.keep (fun k hk ho => ⟨by rw [hbk k (fun e => by rw [e, hob] at ho; cases ho)]; exact hx.block k hk, lab_lt hk⟩)
    · exact (made_rowL B O .table W t2 hB (by have := HT2.out; omega)).keep (fun k hk ho => ⟨hbk k (fun e => by rw [e, lab_lt lb, hob] at ho; cases ho), rfl⟩)
    · rw [List.take_zero, HP2.out]
      exact tinv_nil (j + 1) (by omega) (by omega)
  go_enter Try.func80, Try.ntmps80
  go_wp2_with fail
  refine wp_loop_f 38 (grI B O W bs names na nn nc (some ⟨W.heap.size, 0, none⟩) t2 t2 ra rn rc) (fun f _ => nn - (intOf (f 2)).toNat) rfl ⟨rfl, 0, by omega, rfl, H0⟩ ?_
  obtain ⟨bt, hbt⟩ : ∃ bt, bt = W.heap.size := ⟨_, rfl⟩
  have hbt' : bs < bt := by omega
  rw [← hbt]
  clear H0 hb hf lb nb hbt m1 e1
  intro F V hrel
  obtain ⟨f0, i, hi, f2, HQ⟩ := hrel
  have H2 : Hid (F 2 = .int .i64 (i : Nat)) := f2
  rw [frame38, f0, f2]
  clear f0 f2
  obtain ⟨O1, T1, hFr, ⟨hb, hf, hob1, hN1, hT1, _⟩, hI1⟩ := HQ.out
  by_cases hin : i < nn
  · have hin' : (i : Int) < (nn : Int) := by omega
    have hrn := (hN1.rw encS_len).1
    have hrt := (hT1.rw encK_len).1
    obtain ⟨nm, hnm⟩ : ∃ nm, names[i]? = some nm := ⟨_, List.getElem?_eq_getElem (by rw [HNL.out]; exact hin)⟩
    obtain ⟨bn, Cn, rfl, hCn, hcn, _, un⟩ := rw_cell (v := .string ⟨nm.toArray⟩) hrn hnm rfl
    have hnn1 : bn ≠ bs := fun e => by have := hN1.2 bn rfl; rw [e, hob1] at this; cases this
    have hT1L : T1.length = t2 := hrt.1
    have HVAL : Hid (∀ v ∈ T1, v ≤ i) := fun v hv => by have := hI1.val v hv; rw [List.length_take] at this; omega
    have hnml : nm.length ≤ 1000000 := HNM.out nm (List.mem_of_getElem? hnm)
    have HRN : Hid (Rw encS 1 V (some ⟨bn, 0, none⟩) nn names) := hrn
    have HRT : Hid (Rw encK 1 V (some ⟨bt, 0, none⟩) t2 T1) := hrt
    have HT1L : Hid (T1.length = t2) := hT1L
    have HNMI : Hid (names[i]? = some nm) := hnm
    have HTI : Hid (TInv (names.take i) T1) := hI1
    have q0 : (0 : Int) ≤ (i : Int) := by omega
    have q2 : ((i : Int)).toNat = i := by omega
    have ht2p : 0 < t2 := by have := HT2.out; omega
    have t2c : t2 ≤ 1024 := by have := HT2.out; omega
    obtain ⟨s, hs⟩ : ∃ s : ByteArray, s = ⟨nm.toArray⟩ := ⟨_, rfl⟩
    have HS : Hid (s = ⟨nm.toArray⟩) := hs
    rw [← hs] at un
    have hbtb : bt ≠ bs := by omega
    have hbtn : bt ≠ bn := fun e => by
      have h1 := hN1.2 bn rfl
      have h2 := hT1.2 bt rfl
      rw [e, h1] at h2; cases h2
    have HRL : Hid (RowL B O1 .table V 3 1 (.slice (some ⟨bt, 0, none⟩) t2 t2) T1.length (T1.flatMap encK)) := hT1
    have HRNL : Hid (RowL B O1 .names V 9 1 (.slice (some ⟨bn, 0, none⟩) nn nc) names.length (names.flatMap encS)) := hN1
    have HFR : Hid (Fr isSym O W O1 V) := hFr
    have HOB1 : Hid (O1 bs = .st) := hob1
    clear hrn hrt hnm hs hI1 hT1L hT1 hN1 hFr hob1 HQ HNL
    repeat go_step
    refine wp_region_held_drew (S := fun W' => blk W' bs = some (stE (some ⟨bn, 0, none⟩) nn nc (some ⟨bt, 0, none⟩) t2 t2 ra rn rc) ∧ blk W' bn = some Cn) (by kernel_rfl) ⟨hb, hCn⟩ (fun hHeld => ?_)
    refine wpAnyH_take (i := 0) (oi := ⟨_, _, _, _, _, _⟩) (v := ?_) rfl (by kernel_rfl) (by kernel_rfl) (by kernel_rfl) (fun _ _ _ h => h) (Or.inl ⟨by rfl, ?_⟩) (by assumption) ?_
    rotate_left 1
    · intro W' hSw
      obtain ⟨hS1, hS2⟩ := hSw
      go_simp
      try with_reducible rfl
    try simp only [Act.put, List.setIfInBounds_toArray, List.set_cons_zero, List.set_cons_succ]
    refine wpAnyH_take (i := 1) (oi := ⟨_, _, _, _, _, _⟩) (v := ?_) rfl (by kernel_rfl) (by kernel_rfl) (by kernel_rfl) (fun _ _ _ h => h) (Or.inl ⟨by rfl, ?_⟩) (by assumption) ?_
    rotate_left 1
    · intro W' hSw
      obtain ⟨hS1, hS2⟩ := hSw
      go_simp
      try with_reducible rfl
    try simp only [Act.put, List.setIfInBounds_toArray, List.set_cons_zero, List.set_cons_succ]
    refine wpAnyH_take (i := 2) (oi := ⟨_, _, _, _, _, _⟩) (v := ?_) rfl (by kernel_rfl) (by kernel_rfl) (by kernel_rfl) (fun _ _ _ h => h) (Or.inl ⟨by rfl, ?_⟩) (by assumption) ?_
    rotate_left 1
    · intro W' hSw
      obtain ⟨hS1, hS2⟩ := hSw
      go_simp
      try with_reducible rfl
    try simp only [Act.put, List.setIfInBounds_toArray, List.set_cons_zero, List.set_cons_succ]
    refine wpAnyH_take (i := 3) (oi := ⟨_, _, _, _, _, _⟩) (v := ?_) rfl (by kernel_rfl) (by kernel_rfl) (by kernel_rfl) (fun _ _ _ h => h) (Or.inl ⟨by rfl, ?_⟩) (by assumption) ?_
    rotate_left 1
    · intro W' hSw
      obtain ⟨hS1, hS2⟩ := hSw
      go_simp
      try with_reducible rfl
    try simp only [Act.put, List.setIfInBounds_toArray, List.set_cons_zero, List.set_cons_succ]
    refine wpAnyH_take (i := 4) (oi := ⟨_, _, _, _, _, _⟩) (v := ?_) rfl (by kernel_rfl) (by kernel_rfl) (by kernel_rfl) (fun _ _ _ h => h) (Or.inl ⟨by rfl, ?_⟩) (by assumption) ?_
    rotate_left 1
    · intro W' hSw
      obtain ⟨hS1, hS2⟩ := hSw
      go_simp
      try with_reducible rfl
    try simp only [Act.put, List.setIfInBounds_toArray, List.set_cons_zero, List.set_cons_succ]
    refine wpAnyH_take (i := 5) (oi := ⟨_, _, _, _, _, _⟩) (v := ?_) rfl (by kernel_rfl) (by kernel_rfl) (by kernel_rfl) (fun _ _ _ h => h) (Or.inl ⟨by rfl, ?_⟩) (by assumption) ?_
    rotate_left 1
    · intro W' hSw
      obtain ⟨hS1, hS2⟩ := hSw
      go_simp
      try with_reducible rfl
    try simp only [Act.put, List.setIfInBounds_toArray, List.set_cons_zero, List.set_cons_succ]
    refine wpAnyH_take (i := 6) (oi := ⟨_, _, _, _, _, _⟩) (v := ?_) rfl (by kernel_rfl) (by kernel_rfl) (by kernel_rfl) (fun _ _ _ h => h) (Or.inl ⟨by rfl, ?_⟩) (by assumption) ?_
    rotate_left 1
    · intro W' hSw
      obtain ⟨hS1, hS2⟩ := hSw
      go_simp
      try with_reducible rfl
    try simp only [Act.put, List.setIfInBounds_toArray, List.set_cons_zero, List.set_cons_succ]
    refine wpAnyH_take (i := 7) (oi := ⟨_, _, _, _, _, _⟩) (v := ?_) rfl (by kernel_rfl) (by kernel_rfl) (by kernel_rfl) (fun _ _ _ h => h) (Or.inl ⟨by rfl, ?_⟩) (by assumption) ?_
    rotate_left 1
    · intro W' hSw
      obtain ⟨hS1, hS2⟩ := hSw
      go_simp
      try with_reducible rfl
    try simp only [Act.put, List.setIfInBounds_toArray, List.set_cons_zero, List.set_cons_succ]
    refine wpAnyH_take (i := 8) (oi := ⟨_, _, _, _, _, _⟩) (v := ?_) rfl (by kernel_rfl) (by kernel_rfl) (by kernel_rfl) (fun _ _ _ h => h) (Or.inl ⟨by rfl, ?_⟩) (by assumption) ?_
    rotate_left 1
    · intro W' hSw
      obtain ⟨hS1, hS2⟩ := hSw
      go_simp
      try with_reducible rfl
    try simp only [Act.put, List.setIfInBounds_toArray, List.set_cons_zero, List.set_cons_succ]
    refine wpAnyH_take (i := 9) (oi := ⟨_, _, _, _, _, _⟩) (v := ?_) rfl (by kernel_rfl) (by kernel_rfl) (by kernel_rfl) (fun _ _ _ h => h) (Or.inl ⟨by rfl, ?_⟩) (by assumption) ?_
    rotate_left 1
    · intro W' hSw
      obtain ⟨hS1, hS2⟩ := hSw
      go_simp
      try with_reducible rfl
    try simp only [Act.put, List.setIfInBounds_toArray, List.set_cons_zero, List.set_cons_succ]
    refine wpAnyH_take (i := 10) (oi := ⟨_, _, _, _, _, _⟩) (v := ?_) rfl (by kernel_rfl) (by kernel_rfl) (by kernel_rfl) (fun _ _ _ h => h) (Or.inl ⟨by rfl, ?_⟩) (by assumption) ?_
    rotate_left 1
    · intro W' hSw
      obtain ⟨hS1, hS2⟩ := hSw
      go_simp
      try with_reducible rfl
    try simp only [Act.put, List.setIfInBounds_toArray, List.set_cons_zero, List.set_cons_succ]
    refine wpAnyH_take (i := 11) (oi := ⟨_, _, _, _, _, _⟩) (v := ?_) rfl (by kernel_rfl) (by kernel_rfl) (by kernel_rfl) (fun _ _ _ h => h) (Or.inl ⟨by rfl, ?_⟩) (by assumption) ?_
    rotate_left 1
    · intro W' hSw
      obtain ⟨hS1, hS2⟩ := hSw
      go_simp
      try with_reducible rfl
    try simp only [Act.put, List.setIfInBounds_toArray, List.set_cons_zero, List.set_cons_succ]
    refine wpAnyH_take (i := 13) (oi := ⟨_, _, _, _, _, _⟩) (v := ?_) rfl (by kernel_rfl) (by kernel_rfl) (by kernel_rfl) (fun _ _ _ h => h) (Or.inl ⟨by rfl, ?_⟩) (by assumption) ?_
    rotate_left 1
    · intro W' hSw
      obtain ⟨hS1, hS2⟩ := hSw
      go_simp
      try with_reducible rfl
    try simp only [Act.put, List.setIfInBounds_toArray, List.set_cons_zero, List.set_cons_succ]
    refine wpAnyH_take (i := 14) (oi := ⟨_, _, _, _, _, _⟩) (v := ?_) rfl (by kernel_rfl) (by kernel_rfl) (by kernel_rfl) (fun _ _ _ h => h) (Or.inl ⟨by rfl, ?_⟩) (by assumption) ?_
    rotate_left 1
    · intro W' hSw
      obtain ⟨hS1, hS2⟩ := hSw
      go_simp
      try with_reducible rfl
    try simp only [Act.put, List.setIfInBounds_toArray, List.set_cons_zero, List.set_cons_succ]
    refine wpAnyH_ready (rs := [12]) (by kernel_rfl) (by simp) ?_
    refine AllReadyH.cons (o := ⟨_, _, _, _, _, _⟩) rfl (fun K' hK => ?_) AllReadyH.nil
    go_simp
    rw [HS.out]
    refine (seek_any V.drew bs (some ⟨bn, 0, none⟩) nn nc (some ⟨bt, 0, none⟩) t2 t2 ra rn rc names T1 nm hb HRN.out HRT.out (j + 1) HP2.out (by omega) (by omega) (fun v hv => by have := HVAL.out v hv; have := HRN.out.1; omega) (by rw [← HT1L.out]; exact HTI.out.zero nm) hnml (by omega)).mono ?_
    rintro e W1 ⟨⟨p, rfl, hsp⟩, k1, rfl⟩
    have hpl : p < t2 := by
      obtain ⟨d, hp, _⟩ := hsp
      rw [hp, HT1L.out]; exact Nat.mod_lt _ ht2p
    obtain ⟨g, Ct, z1, hCt, hft, hog, _, hct, hrow⟩ := tab_put (v := i + 1) HRL.out ht2p hpl
    injection z1 with z1; injection z1 with z1
    subst z1
    have HROW : Hid (RowL B O1 .table (put V bt (splice Ct p [.int .i64 ((i + 1 : Nat) : Int)])) 3 1 (.slice (some ⟨bt, 0, none⟩) t2 t2) (T1.set p (i + 1)).length ((T1.set p (i + 1)).flatMap encK)) := hrow
    have HTI' : Hid (TInv (names.take (i + 1)) (T1.set p (i + 1))) := by
      have hlen : (names.take i).length = i := by rw [List.length_take]; have := HRN.out.1; omega
      have hsp' := hsp.take HVAL.out
      have hni : nm ∉ names.take i := fun hm => by
        obtain ⟨m, hm'⟩ := List.mem_iff_getElem?.1 hm
        rw [List.getElem?_take] at hm'
        split at hm'
        · rename_i hmi
          have h1 := lookF_at HND.out hm'
          have h2 := lookF_at HND.out HNMI.out
          rw [h1] at h2
          have := Option.some.inj h2
          omega
        · simp at hm'
      have hz0 : T1[p]? = some 0 := by
        rcases seek_found HTI.out hsp' with ⟨n, f1, f2⟩ | ⟨f1, f2⟩
        · exact absurd (List.mem_of_getElem? f1) hni
        · exact f2
      have := tinv_add HTI.out hsp' hni hz0 (by rw [hlen, HT1L.out]; have := HT2.out; have := HH.out; have := HRN.out.1; omega)
      rw [hlen, ← take_at HNMI.out] at this
      exact this
    have HOG : Hid (O1 bt = .table) := hog
    clear hsp hrow hog
    dsimp only
    refine hK.out _ _ ⟨hb, hCn⟩ (fun hHeld => ?_)
    clear hK K'
    try simp only [Act.put, List.setIfInBounds_toArray, List.set_cons_zero, List.set_cons_succ]
    have q3 : (0 : Int) ≤ (p : Int) := by omega
    have q4 : (p : Int) < (t2 : Int) := by omega
    have q5 : ((p : Int)).toNat = p := by omega
    have hCt' : blk (V.drew.drewN k1) bt = some Ct := hCt
    have hft' : free (V.drew.drewN k1) bt = true := hft
    have e6 : IntKind.i64.wrap ((i : Int) + 1) = ((i : Int) + 1) := by rw [IntKind.wrap_i64]; omega
    refine wpAnyH_take (i := 15) (oi := ⟨_, _, _, _, _, _⟩) (v := ?_) rfl (by kernel_rfl) (by kernel_rfl) (by kernel_rfl) (fun _ _ _ h => h) (Or.inl ⟨by rfl, ?_⟩) (by assumption) ?_
    rotate_left 1
    · intro W' hSw
      obtain ⟨hS1, hS2⟩ := hSw
      go_simp
      try with_reducible rfl
    try simp only [Act.put, List.setIfInBounds_toArray, List.set_cons_zero, List.set_cons_succ]
    refine wpAnyH_ready (rs := [16]) (by kernel_rfl) (by simp) ?_
    refine AllReadyH.cons (o := ⟨_, _, _, _, _, _⟩) rfl (fun K' hK => ?_) AllReadyH.nil
    go_simp
    refine hK.out _ _ ⟨?_, ?_⟩ (fun hHeld => ?_)
    · show blk (put V bt _) bs = _
      rw [blk_put, if_neg (Ne.symm hbtb)]; exact hb
    · show blk (put V bt _) bn = _
      rw [blk_put, if_neg (Ne.symm hbtn)]; exact hCn
    clear hK K'
    try simp only [Act.put, List.setIfInBounds_toArray, List.set_cons_zero, List.set_cons_succ]
    have HQ' : Hid (grQ B O W bs names (i + 1) (some ⟨bn, 0, none⟩) nn nc (some ⟨bt, 0, none⟩) t2 t2 ra rn rc ((put V bt (splice Ct p [.int .i64 ((i : Int) + 1)])).drewN (1 + k1))) := by
      have ec : ((i : Int) + 1) = ((i + 1 : Nat) : Int) := by omega
      rw [ec]
      refine ⟨O1, T1.set p (i + 1), ?_, ⟨?_, ?_, HOB1.out, ?_, ?_, hBb⟩, HTI'.out⟩
      · exact (Fr.put HFR.out (by rw [HOG.out]; exact .inr (.inr rfl)) _).drewN _
      · show blk (put V bt _) bs = _
        rw [blk_put, if_neg (Ne.symm hbtb)]; exact hb
      · show free (put V bt _) bs = _
        rw [free_put]; exact hf
      · exact HRNL.out.keep (W' := put V bt _) (fun k hk ho => ⟨by rw [heap_put, if_neg (fun e => by rw [e, HOG.out] at ho; cases ho)], rfl⟩)
      · exact HROW.out
    clear HROW HTI' HRNL HRL HFR
    refine wpAnyH_done (by kernel_rfl) ?_ _
    go_wp2_with fail
    refine ⟨rfl, rfl, ⟨rfl, i + 1, by omega, ?_, HQ'⟩, ?_⟩
    · show Value.int .i64 _ = _
      go_num
    · show nn - (intOf (Value.int .i64 _)).toNat < nn - (intOf (F 2)).toNat
      rw [H2.out]
      simp [intOf]; omega
  · obtain rfl : i = nn := by omega
    have hin' : ¬ ((i : Int) < (i : Int)) := by omega
    have HP : Hid (GrowPost B O W bs names na i nc t2 ra rn rc (.returned (.tuple #[])) V) := by
      rw [List.take_of_length_le (by rw [HNL.out]; exact Nat.le_refl _)] at hI1
      exact ⟨rfl, O1, T1, _, hFr, ⟨hb, hf, hob1, hN1, hT1, hBb⟩, hI1, ((hT1.rw encK_len).1).1⟩
    clear HQ hI1 hT1 hN1 hFr hob1
    go_wp2_with fail
    go_end0
    exact HP.out
end Go.Proofs.Qxb6500789a
