import Derived.Test.Qxb6500789aXi
import Derived.StillTailTactics
import Derived.Deep.QuietTactic
import Derived.BigQuiet
import Derived.Deep.RegionHeld
import Derived.Deep.CutRange
import Derived.Laws.ResultCell
import Derived.Laws.Rows
import Derived.DeepKeys
import Derived.DataBytes
import Derived.Laws.StructEq
import Derived.Laws.AppendOwn
import Derived.Laws.MakeOwn
import Derived.Lib.AppendStr
set_option linter.unusedSimpArgs false
set_option linter.unusedVariables false
namespace Go.Proofs.Qxb6500789a
open Go.RowKit Go.Blk
attribute [local go_sem ↓] execOp_load execOp_store execOp_alloc
attribute [local go_sem] Try.ld29 Try.st29 Try.ld3 Try.st3 Try.ld9 Try.st9 Try.ld30 Try.st30 Try.ld34 Try.st34 Try.ld35 Try.st35 Try.ld36 Try.st36 Try.ld37 Try.st37 Try.ld44 Try.st44 Try.ld45 Try.st45 Try.ld54 Try.st54 Try.ld55 Try.st55 Try.ld74 Try.st74 Try.ld80 Try.st80 Try.ld84 Try.st84 Try.ld106 Try.st106 Try.ld107 Try.st107 Try.ld4 Try.st4 Try.ld121 Try.st121 Try.ld2 Try.st2 Try.ld5 Try.st5 Try.ld12 Try.st12 Try.ld21 Try.st21 Try.ld22 Try.st22 Try.ld24 Try.st24 Try.ld26 Try.st26 Try.ld63 Try.st63 Try.ld71 Try.st71 Try.ld103 Try.st103 Try.ld130 Try.st130 Try.ld133 Try.st133 Try.ld140 Try.st140 Try.ld152 Try.st152 Try.ld39 Try.st39 Try.ld32 Try.st32 Try.ld41 Try.st41 Try.ld47 Try.st47 Try.ld57 Try.st57 Try.ld62 Try.st62 Try.ld76 Try.st76 Try.ld82 Try.st82 Try.ld86 Try.st86 Try.ld109 Try.st109 Try.ld115 Try.st115 Try.ld123 Try.st123 Try.ld135 Try.st135 Try.al39 Try.al32 Try.al41 Try.al47 Try.al57 Try.al62 Try.al76 Try.al82 Try.al86 Try.al109 Try.al115 Try.al123 Try.al135
attribute [local go_sem] Answer.length_enc Answer.ok_enc Answer.all_get Answer.all_set Answer.code_get Answer.code_set Answer.n_get Answer.n_set Answer.name_get Answer.name_set Answer.rows_get Answer.rows_set GOp.length_enc GOp.ok_enc GOp.all_get GOp.all_set GOp.kind_get GOp.kind_set GOp.rel_get GOp.rel_set GOp.mask_get GOp.mask_set GOp.t_get GOp.t_set GOp.n_get GOp.n_set GOp.name_get GOp.name_set Store.length_enc Store.ok_enc Store.all_get Store.all_set Store.names_get Store.names_set Store.rels_get Store.rels_set GRel.length_enc GRel.ok_enc GRel.all_get GRel.all_set GRel.arity_get GRel.arity_set GRel.masks_get GRel.masks_set GRel.rows_get GRel.rows_set Row.length_enc Row.ok_enc Row.all_get Row.all_set Row.t_get Row.t_set Row.mark_get Row.mark_set View.length_enc View.ok_enc View.all_get View.all_set View.names_get View.names_set View.rels_get View.rels_set Symtab.length_enc Symtab.ok_enc Symtab.all_get Symtab.all_set Symtab.names_get Symtab.names_set Symtab.table_get Symtab.table_set StoreTuplestore.length_enc StoreTuplestore.ok_enc StoreTuplestore.all_get StoreTuplestore.all_set StoreTuplestore.syms_get StoreTuplestore.syms_set StoreTuplestore.rels_get StoreTuplestore.rels_set StoreTuplestore.syms_names_get StoreTuplestore.syms_names_set StoreTuplestore.syms_table_get StoreTuplestore.syms_table_set Relation.length_enc Relation.ok_enc Relation.all_get Relation.all_set Relation.arity_get Relation.arity_set Relation.slots_get Relation.slots_set Relation.live_get Relation.live_set Relation.idx_get Relation.idx_set Slot.length_enc Slot.ok_enc Slot.all_get Slot.all_set Slot.t_get Slot.t_set Slot.mark_get Slot.mark_set Slot.live_get Slot.live_set RelView.length_enc RelView.ok_enc RelView.all_get RelView.all_set RelView.arity_get RelView.arity_set RelView.rows_get RelView.rows_set RelView.marks_get RelView.marks_set RelView.indexed_get RelView.indexed_set Index.length_enc Index.ok_enc Index.all_get Index.all_set Index.mask_get Index.mask_set Index.heads_get Index.heads_set Index.next_get Index.next_set
attribute [local go_sem] size_put size_ext blk_put free_put blk_alloc free_alloc blk_drew free_drew blk_ext free_ext lookOr_some putOr_some segAt_some cellAt_some storeIn_some put_put put_alloc_new length_arr ok_arr_u8 ok_arr_u32 ok_arr_u64 ok_arr_i64 ok_arr_sl cellsV_agg cellsV_int cellsV_bool cellsV_string cellsV_pointer cellsV_slice cellsV_sl ok_int ok_bool ok_string ok_pointer ok_slice ok_sl toList_arr seg_arr set_arr nth_splice nth_splice0 seg_splice seg_splice0 splice_splice splice_splice0 length_splice_if
attribute [local go_sem ↓] execOp_box
attribute [local go_sem] box_run nth_arr_u8 put_arr_u8 blk_drewN free_drewN put_drewN blk_raw free_raw
theorem tg_ext {a b : Tup} (h : ∀ c, c < 4 → tg a c = tg b c) : a = b := by
  apply Vector.ext
  intro i hi
  have := h i hi
  unfold tg at this
  rw [List.getD_eq_getElem?_getD, List.getD_eq_getElem?_getD, List.getElem?_eq_getElem (by simpa using hi), List.getElem?_eq_getElem (by simpa using hi)] at this
  simpa using this
theorem part37 (w : World) (a : Tup) {c : Nat} (hc : c < 4) : (part 37 (arr i64v a).toArray c).run Try.prog w = .ok (.int .i64 (tg a c)) w := by
  refine run_part_plain w (by kernel_rfl) ?_
  have := nth_t a c hc
  unfold nth at this
  simpa using this
theorem eqItems_tup (w : World) (d : Nat) (a b : Tup) : ∀ is : List Nat, (∀ i ∈ is, i < 4) → (Op.eqItems (d + 1) 37 1 (arr i64v a).toArray (arr i64v b).toArray is).run Try.prog w = .ok (is.all (fun i => tg a i == tg b i)) w
  | [], _ => by simp [Op.eqItems]
  | i :: is, h => by
    have hi := h i (List.mem_cons_self ..)
    have ih := eqItems_tup w d a b is (fun j hj => h j (List.mem_cons_of_mem _ hj))
    simp only [Op.eqItems, Sem.run_bind, Nat.mul_one, part37 w _ hi, Result.andThen_ok, run_equalIn_int w d 37 .i64 .i64 _ _ Try.underlying37]
    cases hx : (tg a i == tg b i)
    · simp [hx]
    · simp [hx, ih]
theorem eq39 (w : World) (d : Nat) (a b : Tup) : (Op.equalIn (d + 2) 39 (.agg (arr i64v a).toArray) (.agg (arr i64v b).toArray)).run Try.prog w = .ok (decide (a = b)) w := by
  obtain ⟨i, z, hi, _⟩ := info37
  have hc : Try.prog.cellsOf 37 = 1 := by kernel_rfl
  have hb : (List.range 4).all (fun i => tg a i == tg b i) = decide (a = b) := by
    by_cases h : a = b
    · rw [decide_eq_true h, h, List.all_eq_true]
      intro x _; simp
    · rw [decide_eq_false h]
      apply Bool.eq_false_iff.2
      intro h1
      refine h (tg_ext fun c hc => ?_)
      have := List.all_eq_true.1 h1 c (by simpa using hc)
      simpa using this
  rw [run_equalIn_array w (d + 1) _ _ Try.underlying39 hi, hc, eqItems_tup w d a b (List.range 4) (fun j hj => by simpa using hj), hb]
def cmpEq (t : TypeId) (x y : Operand) (u v : Value) : Sem Next := do pure (.value (← (do eqGuard .eql t x y u v; binOp .eql t u v)))
def cmpNe (t : TypeId) (x y : Operand) (u v : Value) : Sem Next := do pure (.value (← (do eqGuard .neq t x y u v; binOp .neq t u v)))
theorem execOp_eql39 (a : Act) (dst : Option Tmp) (x y : Operand) (ty : TypeId) (pos : String) (after : Array Edge) (guard : Option (Nat × Bool)) :
    execOp a.eval { dst, op := .binOp .eql 39 x y 39, type := ty, pos, after, guard } = cmpEq 39 x y (a.eval x) (a.eval y) := rfl
theorem execOp_neq39 (a : Act) (dst : Option Tmp) (x y : Operand) (ty : TypeId) (pos : String) (after : Array Edge) (guard : Option (Nat × Bool)) :
    execOp a.eval { dst, op := .binOp .neq 39 x y 39, type := ty, pos, after, guard } = cmpNe 39 x y (a.eval x) (a.eval y) := rfl
theorem guard39 (w : World) (op : BinOp) (x y : Operand) (a b : Tup) : (eqGuard op 39 x y (.agg (arr i64v a).toArray) (.agg (arr i64v b).toArray)).run Try.prog w = .ok () w := by
  have ht : Try.prog.eqGuardType Try.prog.depth 39 = false := by kernel_rfl
  unfold eqGuard
  cases op <;> simp [Sem.run_bind, run_program, ht]
theorem eql39 (w : World) (x y : Operand) (a b : Tup) : (cmpEq 39 x y (.agg (arr i64v a).toArray) (.agg (arr i64v b).toArray)).run Try.prog w = .ok (.value (.bool (decide (a = b)))) w := by
  have h1 : (binOp .eql 39 (.agg (arr i64v a).toArray) (.agg (arr i64v b).toArray)).run Try.prog w = .ok (.bool (decide (a = b))) w := by rw [run_eql_struct, eq39 w 9998]; rfl
  unfold cmpEq
  simp only [Sem.run_bind, guard39, Result.andThen_ok, h1]
  rfl
theorem neq39 (w : World) (x y : Operand) (a b : Tup) : (cmpNe 39 x y (.agg (arr i64v a).toArray) (.agg (arr i64v b).toArray)).run Try.prog w = .ok (.value (.bool (!decide (a = b)))) w := by
  have h1 : (binOp .neq 39 (.agg (arr i64v a).toArray) (.agg (arr i64v b).toArray)).run Try.prog w = .ok (.bool (!decide (a = b))) w := by rw [run_neq_struct, eq39 w 9998]; rfl
  unfold cmpNe
  simp only [Sem.run_bind, guard39, Result.andThen_ok, h1]
  rfl
def relE (ar : Int) (sa : Option Addr) (sn sc : Nat) (lv : Int) (ia : Option Addr) (iN ic : Nat) : List Value := [.int .i64 ar, .slice sa sn sc, .int .i64 lv, .slice ia iN ic]
/-- A relation's four cells in a block. -/
structure RelAt (Cr : List Value) (o : Nat) (ar : Int) (sa : Option Addr) (sn sc : Nat) (lv : Int) (ia : Option Addr) (iN ic : Nat) : Prop where
  len : o + 4 ≤ Cr.length
  c0 : nth Cr o = some (.int .i64 ar)
  c1 : nth Cr (o + 1) = some (.slice sa sn sc)
  c2 : nth Cr (o + 2) = some (.int .i64 lv)
  c3 : nth Cr (o + 3) = some (.slice ia iN ic)
/-- An index as the program holds it. -/
structure IxD where
  m : Nat
  size : Nat
  ha : Option Addr
  xa : Option Addr
  xc : Nat
def IxD.enc (n : Nat) (k : IxD) : List Value := ixE (k.m : Int) k.ha k.size k.size k.xa n k.xc
theorem IxD.len (n : Nat) (k : IxD) : (IxD.enc n k).length = 3 := rfl
theorem IxD.one (n : Nat) (k : IxD) : (IxD.enc n k).all (fun v => v.oneCell') = true := rfl
def SzOk (k : IxD) : Prop := k.m < 16 ∧ ∃ jj, k.size = 2 ^ jj ∧ 3 ≤ jj ∧ jj ≤ 20
structure IxIn (B : Nat) (O : Own) (W : World) (i j : Nat) (L : List Slot) (k : IxD) : Prop where
  sz : SzOk k
  heads : RowL B O (.heads i j) W 3 1 (.slice k.ha k.size k.size) (headsF (bsOf L k.m k.size) k.size).length ((headsF (bsOf L k.m k.size) k.size).flatMap encK)
  next : RowL B O (.next i j) W 3 1 (.slice k.xa L.length k.xc) (nextF (bsOf L k.m k.size)).length ((nextF (bsOf L k.m k.size)).flatMap encK)
/-- A relation's rows. -/
structure RelIn (B : Nat) (O : Own) (W : World) (i : Nat) (sa : Option Addr) (sn sc : Nat) (ia : Option Addr) (iN ic : Nat) (L : List Slot) (K : List IxD) : Prop where
  slots : RowL B O (.slots i) W 115 6 (.slice sa sn sc) L.length (L.flatMap Slot.enc)
  idx : RowL B O (.idx i) W 135 3 (.slice ia iN ic) K.length (K.flatMap (IxD.enc L.length))
  ixs : ∀ j k, K[j]? = some k → IxIn B O W i j L k
theorem IxIn.fr {B : Nat} {O O' : Own} {W W' : World} {i j : Nat} {L : List Slot} {k : IxD} {P : Lab → Prop} (h : IxIn B O W i j L k) (hf : Fr P O W O' W') (h1 : ¬ P (.heads i j)) (h2 : ¬ P (.next i j)) : IxIn B O' W' i j L k := ⟨h.sz, h.heads.fr hf h1, h.next.fr hf h2⟩
def isRel (i : Nat) (l : Lab) : Prop := l = .slots i ∨ l = .idx i ∨ (∃ j, l = .heads i j) ∨ (∃ j, l = .next i j)
theorem RelIn.fr {B : Nat} {O O' : Own} {W W' : World} {i : Nat} {sa : Option Addr} {sn sc : Nat} {ia : Option Addr} {iN ic : Nat} {L : List Slot} {K : List IxD} {P : Lab → Prop} (h : RelIn B O W i sa sn sc ia iN ic L K) (hf : Fr P O W O' W') (hp : ∀ l, isRel i l → ¬ P l) : RelIn B O' W' i sa sn sc ia iN ic L K :=
  ⟨h.slots.fr hf (hp _ (.inl rfl)), h.idx.fr hf (hp _ (.inr (.inl rfl))), fun j k hk => (h.ixs j k hk).fr hf (hp _ (.inr (.inr (.inl ⟨j, rfl⟩)))) (hp _ (.inr (.inr (.inr ⟨j, rfl⟩))))⟩
theorem RelIn.ext {B : Nat} {O : Own} {W W' : World} {i : Nat} {sa : Option Addr} {sn sc : Nat} {ia : Option Addr} {iN ic : Nat} {L : List Slot} {K : List IxD} (h : RelIn B O W i sa sn sc ia iN ic L K) (he : W.Extends W') : RelIn B O W' i sa sn sc ia iN ic L K :=
  h.fr (P := fun _ => False) (Fr.of_extends he) (fun _ _ hf => hf)
theorem RelIn.lens {B : Nat} {O : Own} {W : World} {i : Nat} {sa : Option Addr} {sn sc : Nat} {ia : Option Addr} {iN ic : Nat} {L : List Slot} {K : List IxD} (h : RelIn B O W i sa sn sc ia iN ic L K) : L.length = sn ∧ K.length = iN := ⟨(h.slots.rw Slot.length_enc).1.1, (h.idx.rw (IxD.len _)).1.1⟩
/-- A slot, opened. -/
theorem slot_at {W : World} {sa : Option Addr} {sn : Nat} {L : List Slot} (h : Rw Slot.enc 6 W sa sn L) {n : Nat} {s : Slot} (hs : L[n]? = some s) : ∃ gs Cs, sa = some ⟨gs, 0, none⟩ ∧ blk W gs = some Cs ∧ n * 6 + 6 ≤ Cs.length ∧ n < sn ∧ seg Cs (n * 6) 4 = arr i64v s.t ∧ nth Cs (n * 6 + 4) = some (.int .i64 s.mark) ∧ nth Cs (n * 6 + 5) = some (.bool s.live) ∧ seg Cs (n * 6) 6 = Slot.enc s := by
  obtain ⟨gs, Cs, h1, h2, h3, h4⟩ := h.2 n s hs
  have hn : n < sn := by rw [← h.1]; exact (List.getElem?_eq_some_iff.1 hs).1
  refine ⟨gs, Cs, h1, h2, by omega, hn, ?_, nth_in (j := 4) h4 (Slot.mark_get s) (by omega), nth_in (j := 5) h4 (Slot.live_get s) (by omega), h4⟩
  have := seg_in (p := 0) (m := 4) h4 (by omega)
  rw [Nat.add_zero] at this
  rw [this]; exact Slot.t_get s
/-- An index, opened. -/
theorem ix_at {W : World} {ia : Option Addr} {iN n : Nat} {K : List IxD} (h : Rw (IxD.enc n) 3 W ia iN K) {j : Nat} {k : IxD} (hk : K[j]? = some k) : ∃ gi Ci, ia = some ⟨gi, 0, none⟩ ∧ blk W gi = some Ci ∧ j * 3 + 3 ≤ Ci.length ∧ j < iN ∧ nth Ci (j * 3) = some (.int .i64 (k.m : Int)) ∧ nth Ci (j * 3 + 1) = some (.slice k.ha k.size k.size) ∧ nth Ci (j * 3 + 2) = some (.slice k.xa n k.xc) ∧ seg Ci (j * 3) 3 = IxD.enc n k := by
  obtain ⟨gi, Ci, h1, h2, h3, h4⟩ := h.2 j k hk
  have hj : j < iN := by rw [← h.1]; exact (List.getElem?_eq_some_iff.1 hk).1
  exact ⟨gi, Ci, h1, h2, by omega, hj, nth_in (j := 0) h4 rfl (by omega), nth_in (j := 1) h4 rfl (by omega), nth_in (j := 2) h4 rfl (by omega), h4⟩
def FindP (L : List Slot) (t : Tup) (a b : Int) : Prop := (∃ (n : Nat) (s : Slot), L[n]? = some s ∧ s.t = t ∧ ((s.live = true ∧ a = (n : Int) ∧ b = -1) ∨ (s.live = false ∧ a = -1 ∧ b = (n : Int)))) ∨ ((∀ s ∈ L, s.t ≠ t) ∧ a = -1 ∧ b = -1)
def FindPost (W : World) (L : List Slot) (t : Tup) (e : Ending) (W' : World) : Prop := ∃ a b : Int, e = .returned (.tuple #[.int .i64 a, .int .i64 b]) ∧ FindP L t a b ∧ W.Extends W'
def fiI (W0 : World) (gr o b3 gi q : Nat) (L : List Slot) (t : Tup) (bs : List Nat) (b : Nat) (m : Nat) (f : Nat → Value) (W : World) : Prop :=
  f 0 = .pointer (some ⟨gr, o, none⟩) ∧ f 3 = .pointer (some ⟨b3, 0, none⟩) ∧ f 6 = .pointer (some ⟨gi, q, none⟩) ∧ ∃ n : Nat, f 7 = .int .i64 (n : Nat) ∧ m = n ∧ n ≤ L.length ∧ Hid (W0.Extends W) ∧ Hid (∃ k, n = lastB (bs.take k) b ∧ k ≤ L.length ∧ ∀ i s, k ≤ i → L[i]? = some s → s.t ≠ t)
set_option maxRecDepth 100000 in
theorem frame56 (f : Nat → Value) : frameN 56 f = #[f 0, f 1, f 2, f 3, f 4, f 5, f 6, f 7, f 8, f 9, f 10, f 11, f 12, f 13, f 14, f 15, f 16, f 17, f 18, f 19, f 20, f 21, f 22, f 23, f 24, f 25, f 26, f 27, f 28, f 29, f 30, f 31, f 32, f 33, f 34, f 35, f 36, f 37, f 38, f 39, f 40, f 41, f 42, f 43, f 44, f 45, f 46, f 47, f 48, f 49, f 50, f 51, f 52, f 53, f 54, f 55] := by kernel_rfl
attribute [local go_sem ↓] execOp_eql39 execOp_neq39
attribute [local go_sem] eql39 neq39
set_option maxRecDepth 20000 in
set_option maxHeartbeats 4000000 in
theorem find_any (B : Nat) (O : Own) (W : World) (gr o : Nat) (Cr : List Value) (i : Nat) (ar : Int) (sa : Option Addr) (sn sc : Nat) (lv : Int) (ia : Option Addr) (iN ic : Nat) (L : List Slot) (K : List IxD) (t : Tup) (hb : blk W gr = some Cr) (hR : RelAt Cr o ar sa sn sc lv ia iN ic) (hI : RelIn B O W i sa sn sc ia iN ic L K) (hK0 : 0 < K.length) (hsn : sn ≤ 1000000) :
    Calls Try.prog 62 #[.pointer (some ⟨gr, o, none⟩), .agg (arr i64v t).toArray] W (FindPost W L t) := by
  obtain ⟨r4, c0, c1, c2, c3⟩ := hR
  obtain ⟨hLn, hKn⟩ := hI.lens
  obtain ⟨k0, hk0⟩ : ∃ k0, K[0]? = some k0 := ⟨_, List.getElem?_eq_getElem hK0⟩
  have hix := hI.ixs 0 k0 hk0
  obtain ⟨gi, Ci, rfl, hCi, hci3, hiN, v0, v1, v2, _⟩ := ix_at (hI.idx.rw (IxD.len _)).1 hk0
  rw [Nat.zero_mul] at hci3 v0
  have v1' : nth Ci 1 = some (.slice k0.ha k0.size k0.size) := v1
  have v2' : nth Ci 2 = some (.slice k0.xa L.length k0.xc) := v2
  clear v1 v2
  rw [hLn] at v2'
  obtain ⟨m, size, ha, xa, xc⟩ := k0
  obtain ⟨⟨hm, jj, hjj, hj3, hj20⟩, hheads, hnext⟩ := hix
  dsimp only at hm hjj hheads hnext v0 v1' v2'
  obtain ⟨bs, hbs⟩ : ∃ bs, bs = bsOf L m size := ⟨_, rfl⟩
  rw [← hbs] at hheads hnext
  have hbsl : bs.length = L.length := by rw [hbs, bsOf_len]
  have HHD : Hid (Rw encK 1 W ha size (headsF bs size)) := (hheads.rw encK_len).1
  have HNX : Hid (Rw encK 1 W xa sn (nextF bs)) := by have := (hnext.rw encK_len).1; rw [hLn] at this; exact this
  have HSL : Hid (Rw Slot.enc 6 W sa sn L) := (hI.slots.rw Slot.length_enc).1
  have HBS : Hid (bs = bsOf L m size) := hbs
  have HJ : Hid (size = 2 ^ jj) := hjj
  have hpos : 0 < size := by rw [hjj]; exact Nat.two_pow_pos jj
  have hsz20 : size ≤ 1048576 := by rw [hjj]; exact Nat.pow_le_pow_right (n := 2) (by decide) hj20
  have HLN : Hid (L.length = sn) := hLn
  have HBL : Hid (bs.length = sn) := hbsl.trans hLn
  have HB0 : Hid (blk W gr = some Cr) := hb
  have HC0 : Hid (blk W gi = some Ci) := hCi
  have hi0 : (0 : Int) < (iN : Int) := by omega
  obtain ⟨p, hp⟩ : ∃ p, p = bF t m size := ⟨_, rfl⟩
  have HP : Hid (p = bF t m size) := hp
  have hpl : p < size := by rw [hp]; exact Nat.mod_lt _ hpos
  obtain ⟨gh, Ch, rfl, hCh, hchl, _, uh⟩ := rw_cell (v := .int .i64 (lastB bs p : Nat)) HHD.out (headsF_at bs hpl) rfl
  have HCH : Hid (blk W gh = some Ch) := hCh
  have q1 : (p : Int) < (size : Int) := by omega
  have q0 : (0 : Int) ≤ (p : Int) := by omega
  have q2 : ((p : Int)).toNat = p := by omega
  have l3 : o + 3 + 1 ≤ Cr.length := by omega
  have l1 : o + 1 + 1 ≤ Cr.length := by omega
  have d1 : 1 + 1 ≤ Ci.length := by omega
  have d2 : 2 + 1 ≤ Ci.length := by omega
  clear hI hheads hnext hbs hjj hLn hKn hk0 hbsl hp hK0
  go_enter Try.func62, Try.ntmps62
  go_upto_region 1 with fail
  refine wp_world (fun W0 => blk W0 W.heap.size = some (arr i64v t) ∧ Hid (W.Extends W0) ∧ blk W0 gr = some Cr ∧ blk W0 gi = some Ci ∧ blk W0 gh = some Ch) ⟨?_, extends_alloc (ext_Ext (Ext.refl _)) _, ?_, ?_, ?_⟩ ?_
  · rw [blk_alloc, if_pos rfl]
  · have := blk_lt hb; rw [blk_alloc, if_neg (by omega)]; exact hb
  · have := blk_lt hCi; rw [blk_alloc, if_neg (by omega)]; exact hCi
  · have := blk_lt hCh; rw [blk_alloc, if_neg (by omega)]; exact hCh
  rintro W0 ⟨hb3, HE0, hbr, hbi, hbh⟩
  obtain ⟨b3, e3⟩ : ∃ b3, b3 = W.heap.size := ⟨_, rfl⟩
  have hb3W : W.heap.size ≤ b3 := by omega
  rw [← e3] at hb3 ⊢
  clear e3 hb hCi hCh
  go_upto_region 2 with fail
  refine wp_region_held_drew (S := fun W' => blk W' gi = some Ci ∧ blk W' gh = some Ch ∧ blk W' b3 = some (arr i64v t)) (by kernel_rfl) ⟨hbi, hbh, hb3⟩ (fun hHeld => ?_)
  refine wpAnyH_take (i := 0) (oi := ⟨_, _, _, _, _, _⟩) (v := ?_) rfl (by kernel_rfl) (by kernel_rfl) (by kernel_rfl) (fun _ _ _ h => h) (Or.inl ⟨by rfl, ?_⟩) (by assumption) ?_
  rotate_left 1
  · intro W' hSw
    obtain ⟨hS1, hS2, hS3⟩ := hSw
    go_simp
    try with_reducible rfl
  try simp only [Act.put, List.setIfInBounds_toArray, List.set_cons_zero, List.set_cons_succ]
  refine wpAnyH_take (i := 1) (oi := ⟨_, _, _, _, _, _⟩) (v := ?_) rfl (by kernel_rfl) (by kernel_rfl) (by kernel_rfl) (fun _ _ _ h => h) (Or.inl ⟨by rfl, ?_⟩) (by assumption) ?_
  rotate_left 1
  · intro W' hSw
    obtain ⟨hS1, hS2, hS3⟩ := hSw
    go_simp
    try with_reducible rfl
  try simp only [Act.put, List.setIfInBounds_toArray, List.set_cons_zero, List.set_cons_succ]
  refine wpAnyH_take (i := 2) (oi := ⟨_, _, _, _, _, _⟩) (v := ?_) rfl (by kernel_rfl) (by kernel_rfl) (by kernel_rfl) (fun _ _ _ h => h) (Or.inl ⟨by rfl, ?_⟩) (by assumption) ?_
  rotate_left 1
  · intro W' hSw
    obtain ⟨hS1, hS2, hS3⟩ := hSw
    go_simp
    try with_reducible rfl
  try simp only [Act.put, List.setIfInBounds_toArray, List.set_cons_zero, List.set_cons_succ]
  refine wpAnyH_take (i := 3) (oi := ⟨_, _, _, _, _, _⟩) (v := ?_) rfl (by kernel_rfl) (by kernel_rfl) (by kernel_rfl) (fun _ _ _ h => h) (Or.inl ⟨by rfl, ?_⟩) (by assumption) ?_
  rotate_left 1
  · intro W' hSw
    obtain ⟨hS1, hS2, hS3⟩ := hSw
    go_simp
    try with_reducible rfl
  try simp only [Act.put, List.setIfInBounds_toArray, List.set_cons_zero, List.set_cons_succ]
  refine wpAnyH_take (i := 4) (oi := ⟨_, _, _, _, _, _⟩) (v := ?_) rfl (by kernel_rfl) (by kernel_rfl) (by kernel_rfl) (fun _ _ _ h => h) (Or.inl ⟨by rfl, ?_⟩) (by assumption) ?_
  rotate_left 1
  · intro W' hSw
    obtain ⟨hS1, hS2, hS3⟩ := hSw
    go_simp
    try with_reducible rfl
  try simp only [Act.put, List.setIfInBounds_toArray, List.set_cons_zero, List.set_cons_succ]
  refine wpAnyH_take (i := 5) (oi := ⟨_, _, _, _, _, _⟩) (v := ?_) rfl (by kernel_rfl) (by kernel_rfl) (by kernel_rfl) (fun _ _ _ h => h) (Or.inl ⟨by rfl, ?_⟩) (by assumption) ?_
  rotate_left 1
  · intro W' hSw
    obtain ⟨hS1, hS2, hS3⟩ := hSw
    go_simp
    try with_reducible rfl
  try simp only [Act.put, List.setIfInBounds_toArray, List.set_cons_zero, List.set_cons_succ]
  refine wpAnyH_ready (rs := [6]) (by kernel_rfl) (by simp) ?_
  refine AllReadyH.cons (o := ⟨_, _, _, _, _, _⟩) rfl (fun K' hK => ?_) AllReadyH.nil
  go_simp
  refine (bucket_any W0.drew gi 0 Ci hbi m (some ⟨gh, 0, none⟩) size size v0 v1' (by omega) t hm jj HJ.out hj20).mono ?_
  rintro e W1 ⟨rfl, hE1⟩
  rw [← HP.out]
  have HE1 : Hid (W.Extends W1) := HE0.out.trans ((extends_drew (ext_Ext (Ext.refl W0))).trans hE1)
  have hbi1 : blk W1 gi = some Ci := (hE1.blk (blk_lt (w := W0.drew) hbi)).trans hbi
  have hbh1 : blk W1 gh = some Ch := (hE1.blk (blk_lt (w := W0.drew) hbh)).trans hbh
  have hb31 : blk W1 b3 = some (arr i64v t) := (hE1.blk (blk_lt (w := W0.drew) hb3)).trans hb3
  clear hE1
  dsimp only
  refine hK.out _ _ ⟨hbi1, hbh1, hb31⟩ (fun hHeld => ?_)
  clear hK K'
  try simp only [Act.put, List.setIfInBounds_toArray, List.set_cons_zero, List.set_cons_succ]
  refine wpAnyH_take (i := 7) (oi := ⟨_, _, _, _, _, _⟩) (v := ?_) rfl (by kernel_rfl) (by kernel_rfl) (by kernel_rfl) (fun _ _ _ h => h) (Or.inl ⟨by rfl, ?_⟩) (by assumption) ?_
  rotate_left 1
  · intro W' hSw
    obtain ⟨hS1, hS2, hS3⟩ := hSw
    go_simp
    try with_reducible rfl
  try simp only [Act.put, List.setIfInBounds_toArray, List.set_cons_zero, List.set_cons_succ]
  refine wpAnyH_take (i := 8) (oi := ⟨_, _, _, _, _, _⟩) (v := ?_) rfl (by kernel_rfl) (by kernel_rfl) (by kernel_rfl) (fun _ _ _ h => h) (Or.inl ⟨by rfl, ?_⟩) (by assumption) ?_
  rotate_left 1
  · intro W' hSw
    obtain ⟨hS1, hS2, hS3⟩ := hSw
    go_simp
    try with_reducible rfl
  try simp only [Act.put, List.setIfInBounds_toArray, List.set_cons_zero, List.set_cons_succ]
  refine wpAnyH_take (i := 9) (oi := ⟨_, _, _, _, _, _⟩) (v := ?_) rfl (by kernel_rfl) (by kernel_rfl) (by kernel_rfl) (fun _ _ _ h => h) (Or.inl ⟨by rfl, ?_⟩) (by assumption) ?_
  rotate_left 1
  · intro W' hSw
    obtain ⟨hS1, hS2, hS3⟩ := hSw
    go_simp
    try with_reducible rfl
  try simp only [Act.put, List.setIfInBounds_toArray, List.set_cons_zero, List.set_cons_succ]
  refine wpAnyH_done (by kernel_rfl) ?_ _
  obtain ⟨n0, hn0⟩ : ∃ n0, n0 = lastB bs p := ⟨_, rfl⟩
  rw [← hn0] at uh ⊢
  have HN0 : Hid (n0 = lastB bs p) := hn0
  have hn0l : n0 ≤ sn := by rw [hn0, ← HBL.out]; exact lastB_le _ _
  clear hn0 uh
  go_wp2_with fail
  refine wp_loop_ix 56 (fiI W1 gr o b3 gi 0 L t bs p) n0 rfl ⟨rfl, rfl, rfl, n0, rfl, rfl, by rw [HLN.out]; exact hn0l, ext_Ext (Ext.refl _), ⟨L.length, by rw [HN0.out, List.take_of_length_le (by rw [HBL.out, HLN.out]; exact Nat.le_refl _)], Nat.le_refl _, fun j s hj hs => by have := (List.getElem?_eq_some_iff.1 hs).1; omega⟩⟩ ?_
  have HB1 : Hid (blk W1 gr = some Cr ∧ blk W1 gi = some Ci ∧ blk W1 b3 = some (arr i64v t)) := ⟨(HE1.out.blk (blk_lt HB0.out)).trans HB0.out, hbi1, hb31⟩
  clear hbr hbi hbh hb3 hbi1 hbh1 hb31 HE0 HN0 hn0l
  intro m9 F V hrel μ HM
  obtain ⟨f0, f3, f6, n, f7, rfl, hnL, HE, HQ⟩ := hrel
  rw [frame56, f0, f3, f6, f7]
  clear f0 f3 f6 f7
  have hbV : blk V gr = some Cr := (HE.out.blk (blk_lt HB1.out.1)).trans HB1.out.1
  have hiV : blk V gi = some Ci := (HE.out.blk (blk_lt HB1.out.2.1)).trans HB1.out.2.1
  have hb3V : blk V b3 = some (arr i64v t) := (HE.out.blk (blk_lt HB1.out.2.2)).trans HB1.out.2.2
  have HEW : Hid (W.Extends V) := HE1.out.trans HE.out
  obtain ⟨k, hnk, hkL, hgt⟩ := HQ.out
  by_cases hz : m9 = 0
  · subst hz
    have HF : Hid (FindPost W L t (.returned (.tuple #[.int .i64 (-1), .int .i64 (-1)])) V) := by
      refine ⟨-1, -1, rfl, .inr ⟨fun s hs e => ?_, rfl, rfl⟩, HEW.out⟩
      obtain ⟨j, hj⟩ := List.mem_iff_getElem?.1 hs
      by_cases hjk : k ≤ j
      · exact hgt j s hjk hj e
      · refine lastB_gt (bs.take k) p j (by omega) ?_
        rw [List.getElem?_take, if_pos (by omega), HBS.out]
        unfold bsOf
        rw [List.getElem?_map, hj, Option.map_some, e, HP.out]
    clear HQ hgt hnk
    go_wp2_with fail
    go_ret2
    exact HF.out
  obtain ⟨n1, rfl⟩ : ∃ n1, m9 = n1 + 1 := ⟨m9 - 1, by omega⟩
  have hb1 := lastB_at (bs.take k) p n1 hnk.symm
  rw [List.getElem?_take] at hb1
  have hn1k : n1 < k := by
    rcases Nat.lt_or_ge n1 k with h | h
    · exact h
    · rw [if_neg (by omega)] at hb1; simp at hb1
  rw [if_pos hn1k] at hb1
  obtain ⟨s, hs⟩ : ∃ s, L[n1]? = some s := ⟨_, List.getElem?_eq_getElem (by omega)⟩
  obtain ⟨gs, Cs, rfl, hCs, hcs6, hn1s, us, um, ul, _⟩ := slot_at HSL.out hs
  have hCsV : blk V gs = some Cs := (HEW.out.blk (blk_lt hCs)).trans hCs
  have hnx : (nextF bs)[n1]? = some (lastB (bs.take n1) p) := by
    rw [nextF_at bs (by rw [HBL.out]; exact hn1s), List.getD_eq_getElem?_getD, hb1]; rfl
  obtain ⟨gx, Cx, rfl, hCx, hcx1, _, ux⟩ := rw_cell (v := .int .i64 (lastB (bs.take n1) p : Nat)) HNX.out hnx rfl
  have hCxV : blk V gx = some Cx := (HEW.out.blk (blk_lt hCx)).trans hCx
  obtain ⟨n2, hn2⟩ : ∃ n2, n2 = lastB (bs.take n1) p := ⟨_, rfl⟩
  rw [← hn2] at ux
  have hn2l : n2 ≤ n1 := by rw [hn2]; exact Nat.le_trans (lastB_le _ _) (by rw [List.length_take]; omega)
  have HN2 : Hid (n2 = lastB (bs.take n1) p) := hn2
  have HS : Hid (L[n1]? = some s) := hs
  have HGT : Hid (∀ i s, k ≤ i → L[i]? = some s → s.t ≠ t) := hgt
  have HBK : Hid (∀ i, n1 < i → i < k → bs[i]? ≠ some p) := by
    intro j h1 h2 e
    refine lastB_gt (bs.take k) p j (by omega) ?_
    rw [List.getElem?_take, if_pos h2]; exact e
  have r0 : (0 : Int) ≤ (n1 : Int) := by omega
  have r1 : (n1 : Int) < (sn : Int) := by omega
  have r2 : ((n1 : Int)).toNat = n1 := by omega
  have r3 : IntKind.i64.wrap (((n1 + 1 : Nat) : Int) - 1) = (n1 : Int) := by rw [IntKind.wrap_i64]; omega
  have r3' : IntKind.i64.wrap (n1 : Int) = (n1 : Int) := by rw [IntKind.wrap_i64]; omega
  have r4 : ¬ ((n1 + 1 : Nat) : Int) = 0 := by omega
  have r5 : (((n1 : Int) + 1) != 0) = true := by simp; omega
  have w4 : n1 * 6 + 4 ≤ Cs.length := by omega
  have w5 : n1 * 6 + 5 < Cs.length := by omega
  have w6 : n1 * 6 + 5 + 1 ≤ Cs.length := by omega
  obtain ⟨st, sm, slv⟩ := s
  dsimp only at us um ul
  clear hnk hgt hs hCs hCx hn2 hnx hb1 HQ
  by_cases hst : st = t
  · have HF : Hid (FindPost W L t (.returned (.tuple #[.int .i64 (if slv then (n1 : Int) else -1), .int .i64 (if slv then -1 else (n1 : Int))])) V.drew) := by
      refine ⟨_, _, rfl, .inl ⟨n1, _, HS.out, hst, ?_⟩, extends_drew HEW.out⟩
      cases slv
      · exact .inr ⟨rfl, rfl, rfl⟩
      · exact .inl ⟨rfl, rfl, rfl⟩
    have hd : decide (st = t) = true := decide_eq_true hst
    clear hst
    go_upto_region 5 with fail
    refine wp_region_held_drew (S := fun W' => blk W' gr = some Cr ∧ blk W' gs = some Cs ∧ blk W' b3 = some (arr i64v t)) (by kernel_rfl) ⟨hbV, hCsV, hb3V⟩ (fun hHeld => ?_)
    refine wpAnyH_take (i := 0) (oi := ⟨_, _, _, _, _, _⟩) (v := ?_) rfl (by kernel_rfl) (by kernel_rfl) (by kernel_rfl) (fun _ _ _ h => h) (Or.inl ⟨by rfl, ?_⟩) (by assumption) ?_
    rotate_left 1
    · intro W' hSw
      obtain ⟨hS1, hS2, hS3⟩ := hSw
      go_simp
      try with_reducible rfl
    try simp only [Act.put, List.setIfInBounds_toArray, List.set_cons_zero, List.set_cons_succ]
    refine wpAnyH_take (i := 1) (oi := ⟨_, _, _, _, _, _⟩) (v := ?_) rfl (by kernel_rfl) (by kernel_rfl) (by kernel_rfl) (fun _ _ _ h => h) (Or.inl ⟨by rfl, ?_⟩) (by assumption) ?_
    rotate_left 1
    · intro W' hSw
      obtain ⟨hS1, hS2, hS3⟩ := hSw
      go_simp
      try with_reducible rfl
    try simp only [Act.put, List.setIfInBounds_toArray, List.set_cons_zero, List.set_cons_succ]
    refine wpAnyH_take (i := 2) (oi := ⟨_, _, _, _, _, _⟩) (v := ?_) rfl (by kernel_rfl) (by kernel_rfl) (by kernel_rfl) (fun _ _ _ h => h) (Or.inl ⟨by rfl, ?_⟩) (by assumption) ?_
    rotate_left 1
    · intro W' hSw
      obtain ⟨hS1, hS2, hS3⟩ := hSw
      go_simp
      try with_reducible rfl
    try simp only [Act.put, List.setIfInBounds_toArray, List.set_cons_zero, List.set_cons_succ]
    refine wpAnyH_take (i := 3) (oi := ⟨_, _, _, _, _, _⟩) (v := ?_) rfl (by kernel_rfl) (by kernel_rfl) (by kernel_rfl) (fun _ _ _ h => h) (Or.inl ⟨by rfl, ?_⟩) (by assumption) ?_
    rotate_left 1
    · intro W' hSw
      obtain ⟨hS1, hS2, hS3⟩ := hSw
      go_simp
      try with_reducible rfl
    try simp only [Act.put, List.setIfInBounds_toArray, List.set_cons_zero, List.set_cons_succ]
    refine wpAnyH_take (i := 4) (oi := ⟨_, _, _, _, _, _⟩) (v := ?_) rfl (by kernel_rfl) (by kernel_rfl) (by kernel_rfl) (fun _ _ _ h => h) (Or.inl ⟨by rfl, ?_⟩) (by assumption) ?_
    rotate_left 1
    · intro W' hSw
      obtain ⟨hS1, hS2, hS3⟩ := hSw
      go_simp
      try with_reducible rfl
    try simp only [Act.put, List.setIfInBounds_toArray, List.set_cons_zero, List.set_cons_succ]
    refine wpAnyH_take (i := 5) (oi := ⟨_, _, _, _, _, _⟩) (v := ?_) rfl (by kernel_rfl) (by kernel_rfl) (by kernel_rfl) (fun _ _ _ h => h) (Or.inl ⟨by rfl, ?_⟩) (by assumption) ?_
    rotate_left 1
    · intro W' hSw
      obtain ⟨hS1, hS2, hS3⟩ := hSw
      go_simp
      try with_reducible rfl
    try simp only [Act.put, List.setIfInBounds_toArray, List.set_cons_zero, List.set_cons_succ]
    refine wpAnyH_take (i := 6) (oi := ⟨_, _, _, _, _, _⟩) (v := ?_) rfl (by kernel_rfl) (by kernel_rfl) (by kernel_rfl) (fun _ _ _ h => h) (Or.inl ⟨by rfl, ?_⟩) (by assumption) ?_
    rotate_left 1
    · intro W' hSw
      obtain ⟨hS1, hS2, hS3⟩ := hSw
      go_simp
      try with_reducible rfl
    try simp only [Act.put, List.setIfInBounds_toArray, List.set_cons_zero, List.set_cons_succ]
    refine wpAnyH_take (i := 7) (oi := ⟨_, _, _, _, _, _⟩) (v := ?_) rfl (by kernel_rfl) (by kernel_rfl) (by kernel_rfl) (fun _ _ _ h => h) (Or.inl ⟨by rfl, ?_⟩) (by assumption) ?_
    rotate_left 1
    · intro W' hSw
      obtain ⟨hS1, hS2, hS3⟩ := hSw
      go_simp
      try with_reducible rfl
    try simp only [Act.put, List.setIfInBounds_toArray, List.set_cons_zero, List.set_cons_succ]
    refine wpAnyH_take (i := 8) (oi := ⟨_, _, _, _, _, _⟩) (v := ?_) rfl (by kernel_rfl) (by kernel_rfl) (by kernel_rfl) (fun _ _ _ h => h) (Or.inl ⟨by rfl, ?_⟩) (by assumption) ?_
    rotate_left 1
    · intro W' hSw
      obtain ⟨hS1, hS2, hS3⟩ := hSw
      go_simp
      try with_reducible rfl
    try simp only [Act.put, List.setIfInBounds_toArray, List.set_cons_zero, List.set_cons_succ]
    refine wpAnyH_take (i := 9) (oi := ⟨_, _, _, _, _, _⟩) (v := ?_) rfl (by kernel_rfl) (by kernel_rfl) (by kernel_rfl) (fun _ _ _ h => h) (Or.inl ⟨by rfl, ?_⟩) (by assumption) ?_
    rotate_left 1
    · intro W' hSw
      obtain ⟨hS1, hS2, hS3⟩ := hSw
      go_simp
      try with_reducible rfl
    try simp only [Act.put, List.setIfInBounds_toArray, List.set_cons_zero, List.set_cons_succ]
    refine wpAnyH_take (i := 10) (oi := ⟨_, _, _, _, _, _⟩) (v := ?_) rfl (by kernel_rfl) (by kernel_rfl) (by kernel_rfl) (fun _ _ _ h => h) (Or.inl ⟨by rfl, ?_⟩) (by assumption) ?_
    rotate_left 1
    · intro W' hSw
      obtain ⟨hS1, hS2, hS3⟩ := hSw
      go_simp
      try with_reducible rfl
    try simp only [Act.put, List.setIfInBounds_toArray, List.set_cons_zero, List.set_cons_succ]
    refine wpAnyH_done (by kernel_rfl) ?_ _
    cases slv
    · go_wp2_with fail
      go_ret2
      exact HF.out
    · go_wp2_with fail
      go_ret2
      exact HF.out
  · have hd : decide (st = t) = false := decide_eq_false hst
    have HQ' : Hid (∃ k, n2 = lastB (bs.take k) p ∧ k ≤ L.length ∧ ∀ i s, k ≤ i → L[i]? = some s → s.t ≠ t) := by
      refine ⟨n1, HN2.out, by omega, fun j s hj hs => ?_⟩
      by_cases h1 : j = n1
      · subst h1
        rw [HS.out] at hs
        rw [← Option.some.inj hs]; exact hst
      · by_cases h2 : k ≤ j
        · exact HGT.out j s h2 hs
        · intro e
          refine HBK.out j (by omega) (by omega) ?_
          rw [HBS.out]
          unfold bsOf
          rw [List.getElem?_map, hs, Option.map_some, e, HP.out]
    clear hst
    go_upto_region 5 with fail
    refine wp_region_held_drew (S := fun W' => blk W' gr = some Cr ∧ blk W' gs = some Cs ∧ blk W' b3 = some (arr i64v t)) (by kernel_rfl) ⟨hbV, hCsV, hb3V⟩ (fun hHeld => ?_)
    refine wpAnyH_take (i := 0) (oi := ⟨_, _, _, _, _, _⟩) (v := ?_) rfl (by kernel_rfl) (by kernel_rfl) (by kernel_rfl) (fun _ _ _ h => h) (Or.inl ⟨by rfl, ?_⟩) (by assumption) ?_
    rotate_left 1
    · intro W' hSw
      obtain ⟨hS1, hS2, hS3⟩ := hSw
      go_simp
      try with_reducible rfl
    try simp only [Act.put, List.setIfInBounds_toArray, List.set_cons_zero, List.set_cons_succ]
    refine wpAnyH_take (i := 1) (oi := ⟨_, _, _, _, _, _⟩) (v := ?_) rfl (by kernel_rfl) (by kernel_rfl) (by kernel_rfl) (fun _ _ _ h => h) (Or.inl ⟨by rfl, ?_⟩) (by assumption) ?_
    rotate_left 1
    · intro W' hSw
      obtain ⟨hS1, hS2, hS3⟩ := hSw
      go_simp
      try with_reducible rfl
    try simp only [Act.put, List.setIfInBounds_toArray, List.set_cons_zero, List.set_cons_succ]
    refine wpAnyH_take (i := 2) (oi := ⟨_, _, _, _, _, _⟩) (v := ?_) rfl (by kernel_rfl) (by kernel_rfl) (by kernel_rfl) (fun _ _ _ h => h) (Or.inl ⟨by rfl, ?_⟩) (by assumption) ?_
    rotate_left 1
    · intro W' hSw
      obtain ⟨hS1, hS2, hS3⟩ := hSw
      go_simp
      try with_reducible rfl
    try simp only [Act.put, List.setIfInBounds_toArray, List.set_cons_zero, List.set_cons_succ]
    refine wpAnyH_take (i := 3) (oi := ⟨_, _, _, _, _, _⟩) (v := ?_) rfl (by kernel_rfl) (by kernel_rfl) (by kernel_rfl) (fun _ _ _ h => h) (Or.inl ⟨by rfl, ?_⟩) (by assumption) ?_
    rotate_left 1
    · intro W' hSw
      obtain ⟨hS1, hS2, hS3⟩ := hSw
      go_simp
      try with_reducible rfl
    try simp only [Act.put, List.setIfInBounds_toArray, List.set_cons_zero, List.set_cons_succ]
    refine wpAnyH_take (i := 4) (oi := ⟨_, _, _, _, _, _⟩) (v := ?_) rfl (by kernel_rfl) (by kernel_rfl) (by kernel_rfl) (fun _ _ _ h => h) (Or.inl ⟨by rfl, ?_⟩) (by assumption) ?_
    rotate_left 1
    · intro W' hSw
      obtain ⟨hS1, hS2, hS3⟩ := hSw
      go_simp
      try with_reducible rfl
    try simp only [Act.put, List.setIfInBounds_toArray, List.set_cons_zero, List.set_cons_succ]
    refine wpAnyH_take (i := 5) (oi := ⟨_, _, _, _, _, _⟩) (v := ?_) rfl (by kernel_rfl) (by kernel_rfl) (by kernel_rfl) (fun _ _ _ h => h) (Or.inl ⟨by rfl, ?_⟩) (by assumption) ?_
    rotate_left 1
    · intro W' hSw
      obtain ⟨hS1, hS2, hS3⟩ := hSw
      go_simp
      try with_reducible rfl
    try simp only [Act.put, List.setIfInBounds_toArray, List.set_cons_zero, List.set_cons_succ]
    refine wpAnyH_take (i := 6) (oi := ⟨_, _, _, _, _, _⟩) (v := ?_) rfl (by kernel_rfl) (by kernel_rfl) (by kernel_rfl) (fun _ _ _ h => h) (Or.inl ⟨by rfl, ?_⟩) (by assumption) ?_
    rotate_left 1
    · intro W' hSw
      obtain ⟨hS1, hS2, hS3⟩ := hSw
      go_simp
      try with_reducible rfl
    try simp only [Act.put, List.setIfInBounds_toArray, List.set_cons_zero, List.set_cons_succ]
    refine wpAnyH_take (i := 7) (oi := ⟨_, _, _, _, _, _⟩) (v := ?_) rfl (by kernel_rfl) (by kernel_rfl) (by kernel_rfl) (fun _ _ _ h => h) (Or.inl ⟨by rfl, ?_⟩) (by assumption) ?_
    rotate_left 1
    · intro W' hSw
      obtain ⟨hS1, hS2, hS3⟩ := hSw
      go_simp
      try with_reducible rfl
    try simp only [Act.put, List.setIfInBounds_toArray, List.set_cons_zero, List.set_cons_succ]
    refine wpAnyH_take (i := 8) (oi := ⟨_, _, _, _, _, _⟩) (v := ?_) rfl (by kernel_rfl) (by kernel_rfl) (by kernel_rfl) (fun _ _ _ h => h) (Or.inl ⟨by rfl, ?_⟩) (by assumption) ?_
    rotate_left 1
    · intro W' hSw
      obtain ⟨hS1, hS2, hS3⟩ := hSw
      go_simp
      try with_reducible rfl
    try simp only [Act.put, List.setIfInBounds_toArray, List.set_cons_zero, List.set_cons_succ]
    refine wpAnyH_take (i := 9) (oi := ⟨_, _, _, _, _, _⟩) (v := ?_) rfl (by kernel_rfl) (by kernel_rfl) (by kernel_rfl) (fun _ _ _ h => h) (Or.inl ⟨by rfl, ?_⟩) (by assumption) ?_
    rotate_left 1
    · intro W' hSw
      obtain ⟨hS1, hS2, hS3⟩ := hSw
      go_simp
      try with_reducible rfl
    try simp only [Act.put, List.setIfInBounds_toArray, List.set_cons_zero, List.set_cons_succ]
    refine wpAnyH_take (i := 10) (oi := ⟨_, _, _, _, _, _⟩) (v := ?_) rfl (by kernel_rfl) (by kernel_rfl) (by kernel_rfl) (fun _ _ _ h => h) (Or.inl ⟨by rfl, ?_⟩) (by assumption) ?_
    rotate_left 1
    · intro W' hSw
      obtain ⟨hS1, hS2, hS3⟩ := hSw
      go_simp
      try with_reducible rfl
    try simp only [Act.put, List.setIfInBounds_toArray, List.set_cons_zero, List.set_cons_succ]
    refine wpAnyH_done (by kernel_rfl) ?_ _
    have hbV' : blk V.drew gr = some Cr := hbV
    have hiV' : blk V.drew gi = some Ci := hiV
    have hCxV' : blk V.drew gx = some Cx := hCxV
    go_wp2_with fail
    have HE' : Hid (W1.Extends V.drew) := extends_drew HE.out
    have key : ∀ f' w', fiI W1 gr o b3 gi 0 L t bs p n2 f' w' → (∃ n, fiI W1 gr o b3 gi 0 L t bs p n f' w') ∧ μ f' w' < μ F V := fun f' w' h => ⟨⟨_, h⟩, HM.out _ _ _ h (by omega)⟩
    refine ⟨rfl, rfl, (key _ _ ?hI).1, (key _ _ ?hI).2⟩
    exact ⟨rfl, rfl, rfl, n2, rfl, rfl, by omega, HE', HQ'⟩
end Go.Proofs.Qxb6500789a
