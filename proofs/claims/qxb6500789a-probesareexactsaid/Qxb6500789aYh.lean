import Derived.Test.Qxb6500789aYg
import Derived.StillTailTactics
import Derived.Deep.QuietTactic
import Derived.BigQuiet
import Derived.Deep.RegionHeld
import Derived.Deep.CutRange
import Derived.Laws.ResultCell
import Derived.Laws.Rows
import Derived.DeepKeys
import Derived.DataBytes
import Derived.Laws.StructEq
import Derived.Laws.AppendOwn
import Derived.Laws.MakeOwn
import Derived.Lib.AppendStr
set_option linter.unusedSimpArgs false
set_option linter.unusedVariables false
namespace Go.Proofs.Qxb6500789a
open Go.RowKit Go.Blk
attribute [local go_sem ↓] execOp_load execOp_store execOp_alloc
attribute [local go_sem] Try.ld29 Try.st29 Try.ld3 Try.st3 Try.ld9 Try.st9 Try.ld30 Try.st30 Try.ld34 Try.st34 Try.ld35 Try.st35 Try.ld36 Try.st36 Try.ld37 Try.st37 Try.ld44 Try.st44 Try.ld45 Try.st45 Try.ld54 Try.st54 Try.ld55 Try.st55 Try.ld74 Try.st74 Try.ld80 Try.st80 Try.ld84 Try.st84 Try.ld106 Try.st106 Try.ld107 Try.st107 Try.ld4 Try.st4 Try.ld121 Try.st121 Try.ld2 Try.st2 Try.ld5 Try.st5 Try.ld12 Try.st12 Try.ld21 Try.st21 Try.ld22 Try.st22 Try.ld24 Try.st24 Try.ld26 Try.st26 Try.ld63 Try.st63 Try.ld71 Try.st71 Try.ld103 Try.st103 Try.ld130 Try.st130 Try.ld133 Try.st133 Try.ld140 Try.st140 Try.ld152 Try.st152 Try.ld39 Try.st39 Try.ld32 Try.st32 Try.ld41 Try.st41 Try.ld47 Try.st47 Try.ld57 Try.st57 Try.ld62 Try.st62 Try.ld76 Try.st76 Try.ld82 Try.st82 Try.ld86 Try.st86 Try.ld109 Try.st109 Try.ld115 Try.st115 Try.ld123 Try.st123 Try.ld135 Try.st135 Try.al39 Try.al32 Try.al41 Try.al47 Try.al57 Try.al62 Try.al76 Try.al82 Try.al86 Try.al109 Try.al115 Try.al123 Try.al135
attribute [local go_sem] Answer.length_enc Answer.ok_enc Answer.all_get Answer.all_set Answer.code_get Answer.code_set Answer.n_get Answer.n_set Answer.name_get Answer.name_set Answer.rows_get Answer.rows_set GOp.length_enc GOp.ok_enc GOp.all_get GOp.all_set GOp.kind_get GOp.kind_set GOp.rel_get GOp.rel_set GOp.mask_get GOp.mask_set GOp.t_get GOp.t_set GOp.n_get GOp.n_set GOp.name_get GOp.name_set Store.length_enc Store.ok_enc Store.all_get Store.all_set Store.names_get Store.names_set Store.rels_get Store.rels_set GRel.length_enc GRel.ok_enc GRel.all_get GRel.all_set GRel.arity_get GRel.arity_set GRel.masks_get GRel.masks_set GRel.rows_get GRel.rows_set Row.length_enc Row.ok_enc Row.all_get Row.all_set Row.t_get Row.t_set Row.mark_get Row.mark_set View.length_enc View.ok_enc View.all_get View.all_set View.names_get View.names_set View.rels_get View.rels_set Symtab.length_enc Symtab.ok_enc Symtab.all_get Symtab.all_set Symtab.names_get Symtab.names_set Symtab.table_get Symtab.table_set StoreTuplestore.length_enc StoreTuplestore.ok_enc StoreTuplestore.all_get StoreTuplestore.all_set StoreTuplestore.syms_get StoreTuplestore.syms_set StoreTuplestore.rels_get StoreTuplestore.rels_set StoreTuplestore.syms_names_get StoreTuplestore.syms_names_set StoreTuplestore.syms_table_get StoreTuplestore.syms_table_set Relation.length_enc Relation.ok_enc Relation.all_get Relation.all_set Relation.arity_get Relation.arity_set Relation.slots_get Relation.slots_set Relation.live_get Relation.live_set Relation.idx_get Relation.idx_set Slot.length_enc Slot.ok_enc Slot.all_get Slot.all_set Slot.t_get Slot.t_set Slot.mark_get Slot.mark_set Slot.live_get Slot.live_set RelView.length_enc RelView.ok_enc RelView.all_get RelView.all_set RelView.arity_get RelView.arity_set RelView.rows_get RelView.rows_set RelView.marks_get RelView.marks_set RelView.indexed_get RelView.indexed_set Index.length_enc Index.ok_enc Index.all_get Index.all_set Index.mask_get Index.mask_set Index.heads_get Index.heads_set Index.next_get Index.next_set
attribute [local go_sem] size_put size_ext blk_put free_put blk_alloc free_alloc blk_drew free_drew blk_ext free_ext lookOr_some putOr_some segAt_some cellAt_some storeIn_some put_put put_alloc_new length_arr ok_arr_u8 ok_arr_u32 ok_arr_u64 ok_arr_i64 ok_arr_sl cellsV_agg cellsV_int cellsV_bool cellsV_string cellsV_pointer cellsV_slice cellsV_sl ok_int ok_bool ok_string ok_pointer ok_slice ok_sl toList_arr seg_arr set_arr nth_splice nth_splice0 seg_splice seg_splice0 splice_splice splice_splice0 length_splice_if
attribute [local go_sem ↓] execOp_box
attribute [local go_sem] box_run nth_arr_u8 put_arr_u8 blk_drewN free_drewN put_drewN blk_raw free_raw
set_option maxRecDepth 20000 in
theorem flag_any (W : World) (b : Bool) : Calls Try.prog 25 #[.bool b] W fun e W' => e = .returned (.int .i64 (if b then 1 else 0)) ∧ W' = W := by
  cases b with
  | true =>
    go_enter Try.func25, Try.ntmps25
    go_wp2_with fail
    go_ret
    exact ⟨rfl, rfl⟩
  | false =>
    go_enter Try.func25, Try.ntmps25
    go_wp2_with fail
    go_ret
    exact ⟨rfl, rfl⟩
def nmO (op : GOp) : List UInt8 := op.name.data.toList
def ans (c n : Int) : Answer := ⟨c, n, ByteArray.empty, ⟨none, 0, 0⟩⟩
/-- What one step of a script may do, told plainly. -/
inductive PlayR (st : StS) (op : GOp) : StS → Answer → List Tup → Prop
  | intern (h : op.kind = 0) : PlayR st op ⟨(internF st.names (nmO op)).2.2, st.rels⟩ (ans (internF st.names (nmO op)).2.1 (internF st.names (nmO op)).1) []
  | lookup (h : op.kind = 1) : PlayR st op st (ans (lookupF st.names (nmO op)).2 (lookupF st.names (nmO op)).1) []
  | name (h : op.kind = 2) : PlayR st op st ⟨(nameF st.names (tg op.t 0)).2, 0, ⟨(nameF st.names (tg op.t 0)).1.toArray⟩, ⟨none, 0, 0⟩⟩ []
  | define (h : op.kind = 3) : PlayR st op (defF st op.n).2.2 (ans (defF st op.n).2.1 (defF st op.n).1) []
  | index (h : op.kind = 4) {st' : StS} (hR : ActR (addIxF st op.rel op.mask) st op.rel (addIxP op.mask) st') : PlayR st op st' (ans (addIxF st op.rel op.mask) 0) []
  | hasIx (h : op.kind = 5) : PlayR st op st (ans (hasIxF st op.rel op.mask).2 (if (hasIxF st op.rel op.mask).1 then 1 else 0)) []
  | insert (h : op.kind = 6) {st' : StS} (hR : ActR (insF st op.rel op.t) st op.rel (insP op.t) st') : PlayR st op st' (ans (insF st op.rel op.t) 0) []
  | delete (h : op.kind = 7) {st' : StS} (hR : ActR (delF st op.rel op.t) st op.rel (delP op.t) st') : PlayR st op st' (ans (delF st op.rel op.t) 0) []
  | contains (h : op.kind = 8) : PlayR st op st (ans (containsF st op.rel op.t).2 (if (containsF st op.rel op.t).1 then 1 else 0)) []
  | probe (h : op.kind = 9) (r : Sl) {ts : List Tup} (hp : ts.Perm (probeR st op.rel op.mask op.t)) : PlayR st op st ⟨probeCode st op.rel op.mask op.t, 0, ByteArray.empty, r⟩ ts
  | compact (h : op.kind = 10) {st' : StS} (hR : ActR (relCode st op.rel) st op.rel compP st') : PlayR st op st' (ans (relCode st op.rel) 0) []
  | clear (h : op.kind = 11) {st' : StS} (hR : ActR (relCode st op.rel) st op.rel clearP st') : PlayR st op st' (ans (relCode st op.rel) 0) []
  | setMark (h : op.kind = 12) {st' : StS} (hR : ActR (setF st op.rel op.t op.n) st op.rel (setP op.t op.n) st') : PlayR st op st' (ans (setF st op.rel op.t op.n) 0) []
  | mark (h : op.kind = 13) : PlayR st op st (ans (markF st op.rel op.t).2 (markF st op.rel op.t).1) []
  | len (h : op.kind = 14) : PlayR st op st (ans (lenF st op.rel).2 (lenF st op.rel).1) []
  | list (h : op.kind = 15) (r : Sl) {ts : List Tup} (hp : ts = (rowsS st op.rel).map (·.1)) : PlayR st op st ⟨relCode st op.rel, 0, ByteArray.empty, r⟩ ts
  | bad (h : ∀ i : Nat, i < 16 → op.kind ≠ (i : Int)) : PlayR st op st (ans 13 0) []
def PlayPost (B : Nat) (O : Own) (W : World) (bs : Nat) (st : StS) (op : GOp) (e : Ending) (W' : World) : Prop := ∃ A : Answer, e = .returned (.agg A.enc.toArray) ∧ ∃ O' st' ts, FrS O W O' W' ∧ StAt B O' W' bs st' ∧ RowL W.heap.size O' .no W' 39 4 (Sl.val A.rows) ts.length (ts.flatMap tpl) ∧ PlayR st op st' A ts
/-- The same but for two blocks. -/
structure PutIn (b4 b5 : Nat) (W W' : World) : Prop where
  os : W'.os = W.os
  tape : W'.tape = W.tape
  output : W'.output = W.output
  size : W'.heap.size = W.heap.size
  block : ∀ k, k ≠ b4 → k ≠ b5 → W'.heap[k]? = W.heap[k]?
theorem PutIn.refl (b4 b5 : Nat) (W : World) : PutIn b4 b5 W W := ⟨rfl, rfl, rfl, rfl, fun _ _ _ => rfl⟩
theorem PutIn.p4 {b4 b5 : Nat} {W W' : World} (h : PutIn b4 b5 W W') (C : List Value) : PutIn b4 b5 W (put W' b4 C) := ⟨h.os, h.tape, h.output, by rw [size_put]; exact h.size, fun k h1 h2 => by rw [heap_put, if_neg h1]; exact h.block k h1 h2⟩
theorem PutIn.p5 {b4 b5 : Nat} {W W' : World} (h : PutIn b4 b5 W W') (C : List Value) : PutIn b4 b5 W (put W' b5 C) := ⟨h.os, h.tape, h.output, by rw [size_put]; exact h.size, fun k h1 h2 => by rw [heap_put, if_neg h2]; exact h.block k h1 h2⟩
theorem not_no : ¬ isSt .no := fun h => h.1 rfl
theorem FrS.blk {O O' : Own} {W W' : World} (h : FrS O W O' W') {k : Nat} {C : List Value} (hk : blk W k = some C) (hl : ¬ isSt (O k)) : Blk.blk W' k = some C := (blk_of_heap (h.keep k (blk_lt hk) hl).2).trans hk
theorem FrS.free {O O' : Own} {W W' : World} (h : FrS O W O' W') {k : Nat} {C : List Value} (hk : Blk.blk W k = some C) (hf : Blk.free W k = true) (hl : ¬ isSt (O k)) : Blk.free W' k = true := (free_of_heap (h.keep k (blk_lt hk) hl).2).trans hf
theorem StAt.relab {B : Nat} {O O' : Own} {W : World} {bs : Nat} {st : StS} (h : StAt B O W bs st) (hk : ∀ k, k < W.heap.size → O' k = O k) : StAt B O' W bs st := h.fr (L := fun _ => False) ⟨rfl, rfl, rfl, Nat.le_refl _, hk, fun _ _ _ => rfl⟩ (fun _ _ h => h)
/-- The end of a step: the answer's two blocks written. -/
theorem play_fin {B : Nat} {O : Own} {W W0 : World} {bs : Nat} {st : StS} {op : GOp} (hx : W.Extends W0) {b4 b5 : Nat} (h4 : W.heap.size ≤ b4) (h4' : b4 < W0.heap.size) (h5 : W.heap.size ≤ b5) (h5' : b5 < W0.heap.size) {O' : Own} {W1 : World} (hF : FrS (lab O W.heap.size .no) W0 O' W1) {st' : StS} (hS : StAt B O' W1 bs st') {A : Answer} {ts : List Tup} (hr : RowL W0.heap.size O' .no W1 39 4 (Sl.val A.rows) ts.length (ts.flatMap tpl)) (hP : PlayR st op st' A ts) {Wf : World} (hp : PutIn b4 b5 W1 Wf) : PlayPost B O W bs st op (.returned (.agg A.enc.toArray)) Wf := by
  have l4 : O' b4 = .no := ((hF.keep b4 h4' (by rw [lab_ge h4]; exact not_no)).1).trans (lab_ge h4)
  have l5 : O' b5 = .no := ((hF.keep b5 h5' (by rw [lab_ge h5]; exact not_no)).1).trans (lab_ge h5)
  have hFp : Fr (fun l => l = .no) O' W1 O' Wf := ⟨hp.os, hp.tape, hp.output, by rw [hp.size]; exact Nat.le_refl _, fun _ _ => rfl, fun k _ hn => hp.block k (fun e => hn (by rw [e]; exact l4)) (fun e => hn (by rw [e]; exact l5))⟩
  refine ⟨A, rfl, O', st', ts, ⟨hp.os.trans (hF.os.trans hx.os), hp.tape.trans (hF.tape.trans hx.tape), hp.output.trans (hF.output.trans hx.output), by rw [hp.size]; exact Nat.le_trans hx.size hF.size, fun k hk hn => ?_⟩, hS.fr hFp (fun l hl e => hl.1 e), ⟨row_base (row_keep hr.1 (fun k hk => hp.block k (fun e => ?_) (fun e => ?_))) hx.size, hr.2⟩, hP⟩
  · have hk0 : k < W0.heap.size := Nat.lt_of_lt_of_le hk hx.size
    obtain ⟨g1, g2⟩ := hF.keep k hk0 (by rw [lab_lt hk]; exact hn)
    refine ⟨g1.trans (lab_lt hk), ?_⟩
    rw [hp.block k (by omega) (by omega), g2]
    exact hx.block k hk
  · have := (row_at hr.1 k hk).1; omega
  · have := (row_at hr.1 k hk).1; omega
theorem StAt.sym {B : Nat} {O : Own} {W : World} {bs : Nat} {st : StS} (h : StAt B O W bs st) : ∃ ra rn rc, SymSt B O W bs st.names ra rn rc ∧ rn = st.rels.length := by
  obtain ⟨ra, rn, rc, R, h1, h2, h3, _⟩ := h
  have hRn : R.length = rn := (h2.rw RelD.len).1.1
  exact ⟨ra, rn, rc, h1, by omega⟩
theorem internS_any (B : Nat) (O : Own) (W : World) (bs : Nat) (st : StS) (hS : StAt B O W bs st) (nm : List UInt8) (hl : nm.length ≤ 1000000) : Calls Try.prog 36 #[.pointer (some ⟨bs, 0, none⟩), .string ⟨nm.toArray⟩] W fun e W' => e = .returned (.tuple #[.int .i64 (internF st.names nm).1, .int .i64 (internF st.names nm).2.1]) ∧ StOut B O W bs ⟨(internF st.names nm).2.2, st.rels⟩ W' := by
  obtain ⟨ra, rn, rc, R, h1, h2, h3, h4, h5, h6⟩ := hS
  refine (intern_any B O W bs st.names ra rn rc nm h1 hl h5).mono ?_
  rintro e W1 ⟨rfl, O', hF, hs⟩
  refine ⟨rfl, O', hF.toS (fun _ => isSt_sym), ra, rn, rc, R, hs, h2.fr hF (by rintro (e | e | e) <;> cases e), h3, h4, Nat.le_trans h5 hF.size, fun i d s hd hs => (h6 i d s hd hs).fr hF ?_⟩
  rintro l (rfl | rfl | ⟨j, rfl⟩ | ⟨j, rfl⟩) (e | e | e) <;> cases e
theorem nm_str (s : ByteArray) : (⟨(s.data.toList).toArray⟩ : ByteArray) = s := by cases s; simp
theorem outs_row {W W1 : World} {a : Option Addr} {n c : Nat} {ts : List Tup} (h : Outs W W1 a n c ts) {O : Own} (hO : ∀ k, W.heap.size ≤ k → O k = .no) : RowL W.heap.size O .no W1 39 4 (Sl.val ⟨a, n, c⟩) ts.length (ts.flatMap tpl) := ⟨h.1, fun k hk => hO k (row_at h.1 k hk).1⟩
set_option maxRecDepth 20000 in
set_option maxHeartbeats 8000000 in
theorem play_any (B : Nat) (O : Own) (W : World) (bs : Nat) (st : StS) (hS : StAt B O W bs st) (op : GOp) (hm : op.mask ≤ 9223372036854775807) (hl : (nmO op).length ≤ 1000000) :
    Calls Try.prog 14 #[.pointer (some ⟨bs, 0, none⟩), .agg (GOp.enc op).toArray] W (PlayPost B O W bs st op) := by
  obtain ⟨kind, rel, mask, t, n, name⟩ := op
  have hT0 : nth (GOp.enc ⟨kind, rel, mask, t, n, name⟩) 3 = some (.int .i64 (tg t 0)) := by
    have := nth_in (j := 0) (GOp.t_get ⟨kind, rel, mask, t, n, name⟩) (nth_t t 0 (by omega)) (by omega)
    exact this
  obtain ⟨nm, hnm⟩ : ∃ nm, nm = name.data.toList := ⟨_, rfl⟩
  have hns : name = ⟨nm.toArray⟩ := by rw [hnm, nm_str]
  have hl' : nm.length ≤ 1000000 := by rw [hnm]; exact hl
  have HNS : Hid (name = ⟨nm.toArray⟩) := hns
  have HNM : Hid (nmO ⟨kind, rel, mask, t, n, name⟩ = nm) := hnm.symm
  clear hl hnm hns
  go_enter Try.func14, Try.ntmps14
  go_upto_region 2 with fail
  have lbs : bs < W.heap.size := by obtain ⟨_, _, _, _, _, _, _, _, _, hb, _⟩ := stat_bad hS; exact blk_lt hb
  refine wp_world (fun W0 => blk W0 W.heap.size = some (GOp.enc ⟨kind, rel, mask, t, n, name⟩) ∧ blk W0 (W.heap.size + 1) = some (Answer.enc Answer.zero) ∧ blk W0 (W.heap.size + 2) = some (Answer.enc Answer.zero) ∧ free W0 (W.heap.size + 1) = true ∧ free W0 (W.heap.size + 2) = true ∧ W.Extends W0 ∧ W0.heap.size = W.heap.size + 3) ⟨?_, ?_, ?_, ?_, ?_, ?_, ?_⟩ ?_
  · rw [blk_alloc, if_neg (by rw [World.size_alloc, World.size_alloc]; omega), blk_alloc, if_neg (by rw [World.size_alloc]; omega), blk_alloc, if_pos rfl]
  · rw [blk_alloc, if_neg (by rw [World.size_alloc, World.size_alloc]; omega), blk_alloc, if_pos (by rw [World.size_alloc])]
  · rw [blk_alloc, if_pos (by rw [World.size_alloc, World.size_alloc])]
  · unfold free; rw [heap_alloc, if_neg (by rw [World.size_alloc, World.size_alloc]; omega), heap_alloc, if_pos (by rw [World.size_alloc])]; rfl
  · unfold free; rw [heap_alloc, if_pos (by rw [World.size_alloc, World.size_alloc])]; rfl
  · exact extends_alloc (extends_alloc (extends_alloc (ext_Ext (Ext.refl _)) _) _) _
  · simp [World.size_alloc]
  rintro W0 ⟨hb3, hb4, hb5, hf4, hf5, hx, hsz⟩
  have hO1 : ∀ k, W.heap.size ≤ k → lab O W.heap.size .no k = .no := fun k h => lab_ge h
  have hS0 : StAt B (lab O W.heap.size .no) W0 bs st := (hS.relab (O' := lab O W.heap.size .no) (fun k h => lab_lt h)).ext hx
  have hO2 : ∀ k, W0.heap.size ≤ k → lab O W.heap.size .no k = .no := fun k h => lab_ge (Nat.le_trans hx.size h)
  have HFIN : Hid (∀ (O' : Own) (W1 : World) (st' : StS) (A : Answer) (ts : List Tup), FrS (lab O W.heap.size .no) W0 O' W1 → StAt B O' W1 bs st' → RowL W0.heap.size O' .no W1 39 4 (Sl.val A.rows) ts.length (ts.flatMap tpl) → PlayR st ⟨kind, rel, mask, t, n, name⟩ st' A ts → ∀ Wf, PutIn (W.heap.size + 1) (W.heap.size + 2) W1 Wf → PlayPost B O W bs st ⟨kind, rel, mask, t, n, name⟩ (.returned (.agg A.enc.toArray)) Wf) :=
    fun O' W1 st' A ts h1 h2 h3 h4 Wf h5 => play_fin hx (by omega) (by omega) (by omega) (by omega) h1 h2 h3 h4 h5
  obtain ⟨b3, e3⟩ : ∃ b, b = W.heap.size := ⟨_, rfl⟩
  obtain ⟨b4, e4⟩ : ∃ b, b = W.heap.size + 1 := ⟨_, rfl⟩
  obtain ⟨b5, e5⟩ : ∃ b, b = W.heap.size + 2 := ⟨_, rfl⟩
  have n45 : ¬ b4 = b5 := by omega
  have n54 : ¬ b5 = b4 := by omega
  have ll4 : lab O W.heap.size .no b4 = .no := hO1 _ (by omega)
  have ll5 : lab O W.heap.size .no b5 = .no := hO1 _ (by omega)
  rw [← e5, ← e4] at HFIN
  rw [← e4] at hb4 hf4
  rw [← e5] at hb5 hf5
  rw [← e3] at hb3
  obtain ⟨O1, hO1d⟩ : ∃ O1, O1 = lab O W.heap.size .no := ⟨_, rfl⟩
  rw [← hO1d] at HFIN hS0 ll4 ll5 hO2
  have HS0 : Hid (StAt B O1 W0 bs st) := hS0
  have HO2 : Hid (∀ k, W0.heap.size ≤ k → O1 k = .no) := hO2
  have HL : Hid (O1 b4 = .no ∧ O1 b5 = .no) := ⟨ll4, ll5⟩
  rw [← e5, ← e4, ← e3]
  clear hx hsz hO1 hS0 hS e3 e4 e5 hO1d lbs ll4 ll5 hO2
  by_cases hk : kind = 0
  · subst hk
    have hcall := internS_any B O1 W0 bs st HS0.out nm hl'
    obtain ⟨q, hq⟩ : ∃ q : Int × Int × List (List UInt8), q = internF st.names nm := ⟨_, rfl⟩
    rw [← hq] at hcall
    have HQ := hid_of hq
    clear hq
    go_wp2_with fail
    rw [HNS.out]
    refine hcall.mono ?_
    rintro e W1 ⟨rfl, O', hF, hS'⟩
    have HE := hid_of (fun Wf h => HFIN.out O' W1 ⟨q.2.2, st.rels⟩ (ans q.2.1 q.1) [] hF hS' (RowL.nil _ _ _ _ _ _) (by rw [HQ.out, ← HNM.out]; exact PlayR.intern rfl) Wf h)
    have hb41 := hF.blk hb4 (by rw [HL.out.1]; exact not_no)
    have hb51 := hF.blk hb5 (by rw [HL.out.2]; exact not_no)
    have hf41 := hF.free hb4 hf4 (by rw [HL.out.1]; exact not_no)
    have hf51 := hF.free hb5 hf5 (by rw [HL.out.2]; exact not_no)
    clear hF hS' HFIN HS0 hb4 hb5 hf4 hf5 
    dsimp only
    go_wp2_with fail
    refine ret_cell (C := Answer.enc (ans q.2.1 q.1)) rfl rfl ?_ (by kernel_rfl) (by rw [Answer.length_enc]; kernel_rfl) rfl (HE.out _ ?_)
    · simp only [blk_put, if_neg n45, if_neg n54, if_true, hb41, hb51, Option.map_some]; try rfl
    · repeat first | exact PutIn.refl _ _ _ | apply PutIn.p4 | apply PutIn.p5
  have hk0 : (kind == 0) = false := by simp [hk]
  have HK0 := hid_of hk
  clear hk
  by_cases hk : kind = 1
  · subst hk
    have hcall := (by obtain ⟨ra, rn, rc, hy, _⟩ := HS0.out.sym; exact lookupS_any B O1 W0 bs st.names ra rn rc nm hy hl' : Calls Try.prog 31 #[.pointer (some ⟨bs, 0, none⟩), .string ⟨nm.toArray⟩] W0 fun e W' => e = .returned (.tuple #[.int .i64 (lookupF st.names nm).1, .int .i64 (lookupF st.names nm).2]) ∧ ∃ k, W' = W0.drewN k)
    obtain ⟨q, hq⟩ : ∃ q : Int × Int, q = lookupF st.names nm := ⟨_, rfl⟩
    rw [← hq] at hcall
    have HQ := hid_of hq
    clear hq
    go_wp2_with fail
    rw [HNS.out]
    refine hcall.mono ?_
    rintro e W1 ⟨rfl, k1, hk1⟩
    have hE : W0.Extends W1 := by rw [hk1]; exact extends_drewN (ext_Ext (Ext.refl _)) _
    clear hk1
    have hF : FrS O1 W0 O1 W1 := FrS.of_extends hE
    have hS' : StAt B O1 W1 bs st := HS0.out.ext hE
    obtain ⟨O', hO'⟩ : ∃ O', O' = O1 := ⟨_, rfl⟩
    rw [← hO'] at hS'
    have hF : FrS O1 W0 O' W1 := by rw [hO']; exact hF
    have HE := hid_of (fun Wf h => HFIN.out O' W1 st (ans q.2 q.1) [] hF hS' (RowL.nil _ _ _ _ _ _) (by rw [HQ.out, ← HNM.out]; exact PlayR.lookup rfl) Wf h)
    have hb41 := hF.blk hb4 (by rw [HL.out.1]; exact not_no)
    have hb51 := hF.blk hb5 (by rw [HL.out.2]; exact not_no)
    have hf41 := hF.free hb4 hf4 (by rw [HL.out.1]; exact not_no)
    have hf51 := hF.free hb5 hf5 (by rw [HL.out.2]; exact not_no)
    clear hF hS' HFIN HS0 hb4 hb5 hf4 hf5 
    dsimp only
    go_wp2_with fail
    refine ret_cell (C := Answer.enc (ans q.2 q.1)) rfl rfl ?_ (by kernel_rfl) (by rw [Answer.length_enc]; kernel_rfl) rfl (HE.out _ ?_)
    · simp only [blk_put, if_neg n45, if_neg n54, if_true, hb41, hb51, Option.map_some]; try rfl
    · repeat first | exact PutIn.refl _ _ _ | apply PutIn.p4 | apply PutIn.p5
  have hk1 : (kind == 1) = false := by simp [hk]
  have HK1 := hid_of hk
  clear hk
  by_cases hk : kind = 2
  · subst hk
    have hcall := (by obtain ⟨ra, rn, rc, hy, _⟩ := HS0.out.sym; exact nameS_any B O1 W0 bs st.names ra rn rc (tg t 0) hy : Calls Try.prog 18 #[.pointer (some ⟨bs, 0, none⟩), .int .i64 (tg t 0)] W0 fun e W' => e = .returned (.tuple #[.string ⟨(nameF st.names (tg t 0)).1.toArray⟩, .int .i64 (nameF st.names (tg t 0)).2]) ∧ W' = W0)
    obtain ⟨q, hq⟩ : ∃ q : List UInt8 × Int, q = nameF st.names (tg t 0) := ⟨_, rfl⟩
    rw [← hq] at hcall
    have HQ := hid_of hq
    clear hq
    obtain ⟨sv, hsv⟩ : ∃ sv : ByteArray, sv = ⟨q.1.toArray⟩ := ⟨_, rfl⟩
    rw [← hsv] at hcall
    have HSV := hid_of hsv
    clear hsv
    go_wp2_with fail
    refine hcall.mono ?_
    rintro e W1 ⟨rfl, hk1⟩
    have hE : W0.Extends W1 := by rw [hk1]; exact ext_Ext (Ext.refl _)
    clear hk1
    have hF : FrS O1 W0 O1 W1 := FrS.of_extends hE
    have hS' : StAt B O1 W1 bs st := HS0.out.ext hE
    obtain ⟨O', hO'⟩ : ∃ O', O' = O1 := ⟨_, rfl⟩
    rw [← hO'] at hS'
    have hF : FrS O1 W0 O' W1 := by rw [hO']; exact hF
    have HE := hid_of (fun Wf h => HFIN.out O' W1 st ⟨q.2, 0, sv, ⟨none, 0, 0⟩⟩ [] hF hS' (RowL.nil _ _ _ _ _ _) (by rw [HSV.out, HQ.out]; exact PlayR.name rfl) Wf h)
    have hb41 := hF.blk hb4 (by rw [HL.out.1]; exact not_no)
    have hb51 := hF.blk hb5 (by rw [HL.out.2]; exact not_no)
    have hf41 := hF.free hb4 hf4 (by rw [HL.out.1]; exact not_no)
    have hf51 := hF.free hb5 hf5 (by rw [HL.out.2]; exact not_no)
    clear hF hS' HFIN HS0 hb4 hb5 hf4 hf5 
    dsimp only
    go_wp2_with fail
    refine ret_cell (C := Answer.enc ⟨q.2, 0, sv, ⟨none, 0, 0⟩⟩) rfl rfl ?_ (by kernel_rfl) (by rw [Answer.length_enc]; kernel_rfl) rfl (HE.out _ ?_)
    · simp only [blk_put, if_neg n45, if_neg n54, if_true, hb41, hb51, Option.map_some]; try rfl
    · repeat first | exact PutIn.refl _ _ _ | apply PutIn.p4 | apply PutIn.p5
  have hk2 : (kind == 2) = false := by simp [hk]
  have HK2 := hid_of hk
  clear hk
  by_cases hk : kind = 3
  · subst hk
    have hcall := defineS_any B O1 W0 bs st HS0.out n
    obtain ⟨q, hq⟩ : ∃ q : Int × Int × StS, q = defF st n := ⟨_, rfl⟩
    rw [← hq] at hcall
    have HQ := hid_of hq
    clear hq
    go_wp2_with fail
    refine hcall.mono ?_
    rintro e W1 ⟨rfl, O', hF, hS'⟩
    have HE := hid_of (fun Wf h => HFIN.out O' W1 q.2.2 (ans q.2.1 q.1) [] hF hS' (RowL.nil _ _ _ _ _ _) (by rw [HQ.out]; exact PlayR.define rfl) Wf h)
    have hb41 := hF.blk hb4 (by rw [HL.out.1]; exact not_no)
    have hb51 := hF.blk hb5 (by rw [HL.out.2]; exact not_no)
    have hf41 := hF.free hb4 hf4 (by rw [HL.out.1]; exact not_no)
    have hf51 := hF.free hb5 hf5 (by rw [HL.out.2]; exact not_no)
    clear hF hS' HFIN HS0 hb4 hb5 hf4 hf5 
    dsimp only
    go_wp2_with fail
    refine ret_cell (C := Answer.enc (ans q.2.1 q.1)) rfl rfl ?_ (by kernel_rfl) (by rw [Answer.length_enc]; kernel_rfl) rfl (HE.out _ ?_)
    · simp only [blk_put, if_neg n45, if_neg n54, if_true, hb41, hb51, Option.map_some]; try rfl
    · repeat first | exact PutIn.refl _ _ _ | apply PutIn.p4 | apply PutIn.p5
  have hk3 : (kind == 3) = false := by simp [hk]
  have HK3 := hid_of hk
  clear hk
  by_cases hk : kind = 4
  · subst hk
    have hcall := addIxS_any B O1 W0 bs st HS0.out rel mask hm
    obtain ⟨q, hq⟩ : ∃ q : Int, q = addIxF st rel mask := ⟨_, rfl⟩
    rw [← hq] at hcall
    have HQ := hid_of hq
    clear hq
    go_wp2_with fail
    refine hcall.mono ?_
    rintro e W1 ⟨rfl, O', st', hF, hS', hR⟩
    have HR := hid_of hR
    clear hR
    have HE := hid_of (fun Wf h => HFIN.out O' W1 st' (ans q 0) [] hF hS' (RowL.nil _ _ _ _ _ _) (by have h := HR.out; rw [HQ.out] at h ⊢; exact PlayR.index rfl h) Wf h)
    have hb41 := hF.blk hb4 (by rw [HL.out.1]; exact not_no)
    have hb51 := hF.blk hb5 (by rw [HL.out.2]; exact not_no)
    have hf41 := hF.free hb4 hf4 (by rw [HL.out.1]; exact not_no)
    have hf51 := hF.free hb5 hf5 (by rw [HL.out.2]; exact not_no)
    clear hF hS' HFIN HS0 hb4 hb5 hf4 hf5 
    dsimp only
    go_wp2_with fail
    refine ret_cell (C := Answer.enc (ans q 0)) rfl rfl ?_ (by kernel_rfl) (by rw [Answer.length_enc]; kernel_rfl) rfl (HE.out _ ?_)
    · simp only [blk_put, if_neg n45, if_neg n54, if_true, hb41, hb51, Option.map_some]; try rfl
    · repeat first | exact PutIn.refl _ _ _ | apply PutIn.p4 | apply PutIn.p5
  have hk4 : (kind == 4) = false := by simp [hk]
  have HK4 := hid_of hk
  clear hk
  by_cases hk : kind = 5
  · subst hk
    have hcall := hasIxS_any B O1 W0 bs st HS0.out rel mask hm
    obtain ⟨q, hq⟩ : ∃ q : Bool × Int, q = hasIxF st rel mask := ⟨_, rfl⟩
    rw [← hq] at hcall
    have HQ := hid_of hq
    clear hq
    obtain ⟨fv, hfv⟩ : ∃ fv : Int, fv = if q.1 then 1 else 0 := ⟨_, rfl⟩
    have hflag : ∀ V, Calls Try.prog 25 #[.bool q.1] V fun e W' => e = .returned (.int .i64 fv) ∧ W' = V := fun V => by rw [hfv]; exact flag_any V q.1
    have HFV := hid_of hfv
    clear hfv
    go_wp2_with fail
    refine hcall.mono ?_
    rintro e W1 ⟨rfl, hk1⟩
    have hE : W0.Extends W1 := by rw [hk1]; exact ext_Ext (Ext.refl _)
    clear hk1
    have hF : FrS O1 W0 O1 W1 := FrS.of_extends hE
    have hS' : StAt B O1 W1 bs st := HS0.out.ext hE
    obtain ⟨O', hO'⟩ : ∃ O', O' = O1 := ⟨_, rfl⟩
    rw [← hO'] at hS'
    have hF : FrS O1 W0 O' W1 := by rw [hO']; exact hF
    have HE := hid_of (fun Wf h => HFIN.out O' W1 st (ans q.2 fv) [] hF hS' (RowL.nil _ _ _ _ _ _) (by rw [HFV.out, HQ.out]; exact PlayR.hasIx rfl) Wf h)
    have hb41 := hF.blk hb4 (by rw [HL.out.1]; exact not_no)
    have hb51 := hF.blk hb5 (by rw [HL.out.2]; exact not_no)
    have hf41 := hF.free hb4 hf4 (by rw [HL.out.1]; exact not_no)
    have hf51 := hF.free hb5 hf5 (by rw [HL.out.2]; exact not_no)
    clear hF hS' HFIN HS0 hb4 hb5 hf4 hf5 
    dsimp only
    go_wp2_with fail
    refine (hflag _).mono ?_
    rintro e W2 ⟨rfl, rfl⟩
    dsimp only
    go_wp2_with fail
    refine ret_cell (C := Answer.enc (ans q.2 fv)) rfl rfl ?_ (by kernel_rfl) (by rw [Answer.length_enc]; kernel_rfl) rfl (HE.out _ ?_)
    · simp only [blk_put, if_neg n45, if_neg n54, if_true, hb41, hb51, Option.map_some]; try rfl
    · repeat first | exact PutIn.refl _ _ _ | apply PutIn.p4 | apply PutIn.p5
  have hk5 : (kind == 5) = false := by simp [hk]
  have HK5 := hid_of hk
  clear hk
  by_cases hk : kind = 6
  · subst hk
    have hcall := insertS_any B O1 W0 bs st HS0.out rel t
    obtain ⟨q, hq⟩ : ∃ q : Int, q = insF st rel t := ⟨_, rfl⟩
    rw [← hq] at hcall
    have HQ := hid_of hq
    clear hq
    go_wp2_with fail
    refine hcall.mono ?_
    rintro e W1 ⟨rfl, O', st', hF, hS', hR⟩
    have HR := hid_of hR
    clear hR
    have HE := hid_of (fun Wf h => HFIN.out O' W1 st' (ans q 0) [] hF hS' (RowL.nil _ _ _ _ _ _) (by have h := HR.out; rw [HQ.out] at h ⊢; exact PlayR.insert rfl h) Wf h)
    have hb41 := hF.blk hb4 (by rw [HL.out.1]; exact not_no)
    have hb51 := hF.blk hb5 (by rw [HL.out.2]; exact not_no)
    have hf41 := hF.free hb4 hf4 (by rw [HL.out.1]; exact not_no)
    have hf51 := hF.free hb5 hf5 (by rw [HL.out.2]; exact not_no)
    clear hF hS' HFIN HS0 hb4 hb5 hf4 hf5 
    dsimp only
    go_wp2_with fail
    refine ret_cell (C := Answer.enc (ans q 0)) rfl rfl ?_ (by kernel_rfl) (by rw [Answer.length_enc]; kernel_rfl) rfl (HE.out _ ?_)
    · simp only [blk_put, if_neg n45, if_neg n54, if_true, hb41, hb51, Option.map_some]; try rfl
    · repeat first | exact PutIn.refl _ _ _ | apply PutIn.p4 | apply PutIn.p5
  have hk6 : (kind == 6) = false := by simp [hk]
  have HK6 := hid_of hk
  clear hk
  by_cases hk : kind = 7
  · subst hk
    have hcall := deleteS_any B O1 W0 bs st HS0.out rel t
    obtain ⟨q, hq⟩ : ∃ q : Int, q = delF st rel t := ⟨_, rfl⟩
    rw [← hq] at hcall
    have HQ := hid_of hq
    clear hq
    go_wp2_with fail
    refine hcall.mono ?_
    rintro e W1 ⟨rfl, O', st', hF, hS', hR⟩
    have HR := hid_of hR
    clear hR
    have HE := hid_of (fun Wf h => HFIN.out O' W1 st' (ans q 0) [] hF hS' (RowL.nil _ _ _ _ _ _) (by have h := HR.out; rw [HQ.out] at h ⊢; exact PlayR.delete rfl h) Wf h)
    have hb41 := hF.blk hb4 (by rw [HL.out.1]; exact not_no)
    have hb51 := hF.blk hb5 (by rw [HL.out.2]; exact not_no)
    have hf41 := hF.free hb4 hf4 (by rw [HL.out.1]; exact not_no)
    have hf51 := hF.free hb5 hf5 (by rw [HL.out.2]; exact not_no)
    clear hF hS' HFIN HS0 hb4 hb5 hf4 hf5 
    dsimp only
    go_wp2_with fail
    refine ret_cell (C := Answer.enc (ans q 0)) rfl rfl ?_ (by kernel_rfl) (by rw [Answer.length_enc]; kernel_rfl) rfl (HE.out _ ?_)
    · simp only [blk_put, if_neg n45, if_neg n54, if_true, hb41, hb51, Option.map_some]; try rfl
    · repeat first | exact PutIn.refl _ _ _ | apply PutIn.p4 | apply PutIn.p5
  have hk7 : (kind == 7) = false := by simp [hk]
  have HK7 := hid_of hk
  clear hk
  by_cases hk : kind = 8
  · subst hk
    have hcall := contains_any B O1 W0 bs st HS0.out rel t
    obtain ⟨q, hq⟩ : ∃ q : Bool × Int, q = containsF st rel t := ⟨_, rfl⟩
    rw [← hq] at hcall
    have HQ := hid_of hq
    clear hq
    obtain ⟨fv, hfv⟩ : ∃ fv : Int, fv = if q.1 then 1 else 0 := ⟨_, rfl⟩
    have hflag : ∀ V, Calls Try.prog 25 #[.bool q.1] V fun e W' => e = .returned (.int .i64 fv) ∧ W' = V := fun V => by rw [hfv]; exact flag_any V q.1
    have HFV := hid_of hfv
    clear hfv
    go_wp2_with fail
    refine hcall.mono ?_
    rintro e W1 ⟨rfl, hE⟩
    have hF : FrS O1 W0 O1 W1 := FrS.of_extends hE
    have hS' : StAt B O1 W1 bs st := HS0.out.ext hE
    obtain ⟨O', hO'⟩ : ∃ O', O' = O1 := ⟨_, rfl⟩
    rw [← hO'] at hS'
    have hF : FrS O1 W0 O' W1 := by rw [hO']; exact hF
    have HE := hid_of (fun Wf h => HFIN.out O' W1 st (ans q.2 fv) [] hF hS' (RowL.nil _ _ _ _ _ _) (by rw [HFV.out, HQ.out]; exact PlayR.contains rfl) Wf h)
    have hb41 := hF.blk hb4 (by rw [HL.out.1]; exact not_no)
    have hb51 := hF.blk hb5 (by rw [HL.out.2]; exact not_no)
    have hf41 := hF.free hb4 hf4 (by rw [HL.out.1]; exact not_no)
    have hf51 := hF.free hb5 hf5 (by rw [HL.out.2]; exact not_no)
    clear hF hS' HFIN HS0 hb4 hb5 hf4 hf5 
    dsimp only
    go_wp2_with fail
    refine (hflag _).mono ?_
    rintro e W2 ⟨rfl, rfl⟩
    dsimp only
    go_wp2_with fail
    refine ret_cell (C := Answer.enc (ans q.2 fv)) rfl rfl ?_ (by kernel_rfl) (by rw [Answer.length_enc]; kernel_rfl) rfl (HE.out _ ?_)
    · simp only [blk_put, if_neg n45, if_neg n54, if_true, hb41, hb51, Option.map_some]; try rfl
    · repeat first | exact PutIn.refl _ _ _ | apply PutIn.p4 | apply PutIn.p5
  have hk8 : (kind == 8) = false := by simp [hk]
  have HK8 := hid_of hk
  clear hk
  by_cases hk : kind = 9
  · subst hk
    have hcall := probeS_any B O1 W0 bs st HS0.out rel mask hm t
    obtain ⟨q, hq⟩ : ∃ q : Int, q = probeCode st rel mask t := ⟨_, rfl⟩
    rw [← hq] at hcall
    have HQ := hid_of hq
    clear hq
    go_wp2_with fail
    refine hcall.mono ?_
    rintro e W1 ⟨a, m, c, ts, rfl, hou, hp⟩
    have HOU := hid_of hou
    have HPP := hid_of hp
    have hE : W0.Extends W1 := hou.2.1
    clear hou hp
    have hF : FrS O1 W0 O1 W1 := FrS.of_extends hE
    have hS' : StAt B O1 W1 bs st := HS0.out.ext hE
    obtain ⟨O', hO'⟩ : ∃ O', O' = O1 := ⟨_, rfl⟩
    rw [← hO'] at hS'
    have hF : FrS O1 W0 O' W1 := by rw [hO']; exact hF
    have HOQ := hid_of hO'
    have HE := hid_of (fun Wf h => HFIN.out O' W1 st ⟨q, 0, ByteArray.empty, ⟨a, m, c⟩⟩ ts hF hS' (outs_row HOU.out (by rw [HOQ.out]; exact HO2.out)) (by rw [HQ.out]; exact PlayR.probe rfl _ HPP.out) Wf h)
    have hb41 := hF.blk hb4 (by rw [HL.out.1]; exact not_no)
    have hb51 := hF.blk hb5 (by rw [HL.out.2]; exact not_no)
    have hf41 := hF.free hb4 hf4 (by rw [HL.out.1]; exact not_no)
    have hf51 := hF.free hb5 hf5 (by rw [HL.out.2]; exact not_no)
    clear hF hS' HFIN HS0 hb4 hb5 hf4 hf5 
    dsimp only
    go_wp2_with fail
    refine ret_cell (C := Answer.enc ⟨q, 0, ByteArray.empty, ⟨a, m, c⟩⟩) rfl rfl ?_ (by kernel_rfl) (by rw [Answer.length_enc]; kernel_rfl) rfl (HE.out _ ?_)
    · simp only [blk_put, if_neg n45, if_neg n54, if_true, hb41, hb51, Option.map_some]; try rfl
    · repeat first | exact PutIn.refl _ _ _ | apply PutIn.p4 | apply PutIn.p5
  have hk9 : (kind == 9) = false := by simp [hk]
  have HK9 := hid_of hk
  clear hk
  by_cases hk : kind = 10
  · subst hk
    have hcall := compactS_any B O1 W0 bs st HS0.out rel
    obtain ⟨q, hq⟩ : ∃ q : Int, q = relCode st rel := ⟨_, rfl⟩
    rw [← hq] at hcall
    have HQ := hid_of hq
    clear hq
    go_wp2_with fail
    refine hcall.mono ?_
    rintro e W1 ⟨rfl, O', st', hF, hS', hR⟩
    have HR := hid_of hR
    clear hR
    have HE := hid_of (fun Wf h => HFIN.out O' W1 st' (ans q 0) [] hF hS' (RowL.nil _ _ _ _ _ _) (by have h := HR.out; rw [HQ.out] at h ⊢; exact PlayR.compact rfl h) Wf h)
    have hb41 := hF.blk hb4 (by rw [HL.out.1]; exact not_no)
    have hb51 := hF.blk hb5 (by rw [HL.out.2]; exact not_no)
    have hf41 := hF.free hb4 hf4 (by rw [HL.out.1]; exact not_no)
    have hf51 := hF.free hb5 hf5 (by rw [HL.out.2]; exact not_no)
    clear hF hS' HFIN HS0 hb4 hb5 hf4 hf5 
    dsimp only
    go_wp2_with fail
    refine ret_cell (C := Answer.enc (ans q 0)) rfl rfl ?_ (by kernel_rfl) (by rw [Answer.length_enc]; kernel_rfl) rfl (HE.out _ ?_)
    · simp only [blk_put, if_neg n45, if_neg n54, if_true, hb41, hb51, Option.map_some]; try rfl
    · repeat first | exact PutIn.refl _ _ _ | apply PutIn.p4 | apply PutIn.p5
  have hk10 : (kind == 10) = false := by simp [hk]
  have HK10 := hid_of hk
  clear hk
  by_cases hk : kind = 11
  · subst hk
    have hcall := clearS_any B O1 W0 bs st HS0.out rel
    obtain ⟨q, hq⟩ : ∃ q : Int, q = relCode st rel := ⟨_, rfl⟩
    rw [← hq] at hcall
    have HQ := hid_of hq
    clear hq
    go_wp2_with fail
    refine hcall.mono ?_
    rintro e W1 ⟨rfl, O', st', hF, hS', hR⟩
    have HR := hid_of hR
    clear hR
    have HE := hid_of (fun Wf h => HFIN.out O' W1 st' (ans q 0) [] hF hS' (RowL.nil _ _ _ _ _ _) (by have h := HR.out; rw [HQ.out] at h ⊢; exact PlayR.clear rfl h) Wf h)
    have hb41 := hF.blk hb4 (by rw [HL.out.1]; exact not_no)
    have hb51 := hF.blk hb5 (by rw [HL.out.2]; exact not_no)
    have hf41 := hF.free hb4 hf4 (by rw [HL.out.1]; exact not_no)
    have hf51 := hF.free hb5 hf5 (by rw [HL.out.2]; exact not_no)
    clear hF hS' HFIN HS0 hb4 hb5 hf4 hf5 
    dsimp only
    go_wp2_with fail
    refine ret_cell (C := Answer.enc (ans q 0)) rfl rfl ?_ (by kernel_rfl) (by rw [Answer.length_enc]; kernel_rfl) rfl (HE.out _ ?_)
    · simp only [blk_put, if_neg n45, if_neg n54, if_true, hb41, hb51, Option.map_some]; try rfl
    · repeat first | exact PutIn.refl _ _ _ | apply PutIn.p4 | apply PutIn.p5
  have hk11 : (kind == 11) = false := by simp [hk]
  have HK11 := hid_of hk
  clear hk
  by_cases hk : kind = 12
  · subst hk
    have hcall := setMarkS_any B O1 W0 bs st HS0.out rel t n
    obtain ⟨q, hq⟩ : ∃ q : Int, q = setF st rel t n := ⟨_, rfl⟩
    rw [← hq] at hcall
    have HQ := hid_of hq
    clear hq
    go_wp2_with fail
    refine hcall.mono ?_
    rintro e W1 ⟨rfl, O', st', hF, hS', hR⟩
    have HR := hid_of hR
    clear hR
    have HE := hid_of (fun Wf h => HFIN.out O' W1 st' (ans q 0) [] hF hS' (RowL.nil _ _ _ _ _ _) (by have h := HR.out; rw [HQ.out] at h ⊢; exact PlayR.setMark rfl h) Wf h)
    have hb41 := hF.blk hb4 (by rw [HL.out.1]; exact not_no)
    have hb51 := hF.blk hb5 (by rw [HL.out.2]; exact not_no)
    have hf41 := hF.free hb4 hf4 (by rw [HL.out.1]; exact not_no)
    have hf51 := hF.free hb5 hf5 (by rw [HL.out.2]; exact not_no)
    clear hF hS' HFIN HS0 hb4 hb5 hf4 hf5 
    dsimp only
    go_wp2_with fail
    refine ret_cell (C := Answer.enc (ans q 0)) rfl rfl ?_ (by kernel_rfl) (by rw [Answer.length_enc]; kernel_rfl) rfl (HE.out _ ?_)
    · simp only [blk_put, if_neg n45, if_neg n54, if_true, hb41, hb51, Option.map_some]; try rfl
    · repeat first | exact PutIn.refl _ _ _ | apply PutIn.p4 | apply PutIn.p5
  have hk12 : (kind == 12) = false := by simp [hk]
  have HK12 := hid_of hk
  clear hk
  by_cases hk : kind = 13
  · subst hk
    have hcall := mark_any B O1 W0 bs st HS0.out rel t
    obtain ⟨q, hq⟩ : ∃ q : Int × Int, q = markF st rel t := ⟨_, rfl⟩
    rw [← hq] at hcall
    have HQ := hid_of hq
    clear hq
    go_wp2_with fail
    refine hcall.mono ?_
    rintro e W1 ⟨rfl, hE⟩
    have hF : FrS O1 W0 O1 W1 := FrS.of_extends hE
    have hS' : StAt B O1 W1 bs st := HS0.out.ext hE
    obtain ⟨O', hO'⟩ : ∃ O', O' = O1 := ⟨_, rfl⟩
    rw [← hO'] at hS'
    have hF : FrS O1 W0 O' W1 := by rw [hO']; exact hF
    have HE := hid_of (fun Wf h => HFIN.out O' W1 st (ans q.2 q.1) [] hF hS' (RowL.nil _ _ _ _ _ _) (by rw [HQ.out]; exact PlayR.mark rfl) Wf h)
    have hb41 := hF.blk hb4 (by rw [HL.out.1]; exact not_no)
    have hb51 := hF.blk hb5 (by rw [HL.out.2]; exact not_no)
    have hf41 := hF.free hb4 hf4 (by rw [HL.out.1]; exact not_no)
    have hf51 := hF.free hb5 hf5 (by rw [HL.out.2]; exact not_no)
    clear hF hS' HFIN HS0 hb4 hb5 hf4 hf5 
    dsimp only
    go_wp2_with fail
    refine ret_cell (C := Answer.enc (ans q.2 q.1)) rfl rfl ?_ (by kernel_rfl) (by rw [Answer.length_enc]; kernel_rfl) rfl (HE.out _ ?_)
    · simp only [blk_put, if_neg n45, if_neg n54, if_true, hb41, hb51, Option.map_some]; try rfl
    · repeat first | exact PutIn.refl _ _ _ | apply PutIn.p4 | apply PutIn.p5
  have hk13 : (kind == 13) = false := by simp [hk]
  have HK13 := hid_of hk
  clear hk
  by_cases hk : kind = 14
  · subst hk
    have hcall := lenS_any B O1 W0 bs st HS0.out rel
    obtain ⟨q, hq⟩ : ∃ q : Int × Int, q = lenF st rel := ⟨_, rfl⟩
    rw [← hq] at hcall
    have HQ := hid_of hq
    clear hq
    go_wp2_with fail
    refine hcall.mono ?_
    rintro e W1 ⟨rfl, hk1⟩
    have hE : W0.Extends W1 := by rw [hk1]; exact ext_Ext (Ext.refl _)
    clear hk1
    have hF : FrS O1 W0 O1 W1 := FrS.of_extends hE
    have hS' : StAt B O1 W1 bs st := HS0.out.ext hE
    obtain ⟨O', hO'⟩ : ∃ O', O' = O1 := ⟨_, rfl⟩
    rw [← hO'] at hS'
    have hF : FrS O1 W0 O' W1 := by rw [hO']; exact hF
    have HE := hid_of (fun Wf h => HFIN.out O' W1 st (ans q.2 q.1) [] hF hS' (RowL.nil _ _ _ _ _ _) (by rw [HQ.out]; exact PlayR.len rfl) Wf h)
    have hb41 := hF.blk hb4 (by rw [HL.out.1]; exact not_no)
    have hb51 := hF.blk hb5 (by rw [HL.out.2]; exact not_no)
    have hf41 := hF.free hb4 hf4 (by rw [HL.out.1]; exact not_no)
    have hf51 := hF.free hb5 hf5 (by rw [HL.out.2]; exact not_no)
    clear hF hS' HFIN HS0 hb4 hb5 hf4 hf5 
    dsimp only
    go_wp2_with fail
    refine ret_cell (C := Answer.enc (ans q.2 q.1)) rfl rfl ?_ (by kernel_rfl) (by rw [Answer.length_enc]; kernel_rfl) rfl (HE.out _ ?_)
    · simp only [blk_put, if_neg n45, if_neg n54, if_true, hb41, hb51, Option.map_some]; try rfl
    · repeat first | exact PutIn.refl _ _ _ | apply PutIn.p4 | apply PutIn.p5
  have hk14 : (kind == 14) = false := by simp [hk]
  have HK14 := hid_of hk
  clear hk
  by_cases hk : kind = 15
  · subst hk
    have hcall := listS_any B O1 W0 bs st HS0.out rel
    obtain ⟨q, hq⟩ : ∃ q : Int, q = relCode st rel := ⟨_, rfl⟩
    rw [← hq] at hcall
    have HQ := hid_of hq
    clear hq
    go_wp2_with fail
    refine hcall.mono ?_
    rintro e W1 ⟨a, m, c, ts, rfl, hou, hp⟩
    have HOU := hid_of hou
    have HPP := hid_of hp
    have hE : W0.Extends W1 := hou.2.1
    clear hou hp
    have hF : FrS O1 W0 O1 W1 := FrS.of_extends hE
    have hS' : StAt B O1 W1 bs st := HS0.out.ext hE
    obtain ⟨O', hO'⟩ : ∃ O', O' = O1 := ⟨_, rfl⟩
    rw [← hO'] at hS'
    have hF : FrS O1 W0 O' W1 := by rw [hO']; exact hF
    have HOQ := hid_of hO'
    have HE := hid_of (fun Wf h => HFIN.out O' W1 st ⟨q, 0, ByteArray.empty, ⟨a, m, c⟩⟩ ts hF hS' (outs_row HOU.out (by rw [HOQ.out]; exact HO2.out)) (by rw [HQ.out]; exact PlayR.list rfl _ HPP.out) Wf h)
    have hb41 := hF.blk hb4 (by rw [HL.out.1]; exact not_no)
    have hb51 := hF.blk hb5 (by rw [HL.out.2]; exact not_no)
    have hf41 := hF.free hb4 hf4 (by rw [HL.out.1]; exact not_no)
    have hf51 := hF.free hb5 hf5 (by rw [HL.out.2]; exact not_no)
    clear hF hS' HFIN HS0 hb4 hb5 hf4 hf5 
    dsimp only
    go_wp2_with fail
    refine ret_cell (C := Answer.enc ⟨q, 0, ByteArray.empty, ⟨a, m, c⟩⟩) rfl rfl ?_ (by kernel_rfl) (by rw [Answer.length_enc]; kernel_rfl) rfl (HE.out _ ?_)
    · simp only [blk_put, if_neg n45, if_neg n54, if_true, hb41, hb51, Option.map_some]; try rfl
    · repeat first | exact PutIn.refl _ _ _ | apply PutIn.p4 | apply PutIn.p5
  have hk15 : (kind == 15) = false := by simp [hk]
  have HK15 := hid_of hk
  clear hk
  have HBAD : Hid (PlayR st ⟨kind, rel, mask, t, n, name⟩ st (ans 13 0) []) := by
    refine PlayR.bad (fun i hi e => ?_)
    have h : i = 0 ∨ i = 1 ∨ i = 2 ∨ i = 3 ∨ i = 4 ∨ i = 5 ∨ i = 6 ∨ i = 7 ∨ i = 8 ∨ i = 9 ∨ i = 10 ∨ i = 11 ∨ i = 12 ∨ i = 13 ∨ i = 14 ∨ i = 15 := by omega
    rcases h with rfl | rfl | rfl | rfl | rfl | rfl | rfl | rfl | rfl | rfl | rfl | rfl | rfl | rfl | rfl | rfl
    · exact HK0.out e
    · exact HK1.out e
    · exact HK2.out e
    · exact HK3.out e
    · exact HK4.out e
    · exact HK5.out e
    · exact HK6.out e
    · exact HK7.out e
    · exact HK8.out e
    · exact HK9.out e
    · exact HK10.out e
    · exact HK11.out e
    · exact HK12.out e
    · exact HK13.out e
    · exact HK14.out e
    · exact HK15.out e
  have HE := hid_of (fun Wf h => HFIN.out O1 W0 st (ans 13 0) [] (FrS.of_extends (ext_Ext (Ext.refl _))) HS0.out (RowL.nil _ _ _ _ _ _) HBAD.out Wf h)
  clear HFIN HS0 HBAD
  have hb41 := hb4
  have hb51 := hb5
  go_wp2_with fail
  refine ret_cell (C := Answer.enc (ans 13 0)) rfl rfl ?_ (by kernel_rfl) (by rw [Answer.length_enc]; kernel_rfl) rfl (HE.out _ ?_)
  · simp only [blk_put, if_neg n45, if_neg n54, if_true, hb41, hb51, Option.map_some]; try rfl
  · repeat first | exact PutIn.refl _ _ _ | apply PutIn.p4 | apply PutIn.p5
end Go.Proofs.Qxb6500789a
