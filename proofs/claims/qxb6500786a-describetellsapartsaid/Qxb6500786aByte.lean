/- Byte slices: what they read, cuts, copies. -/
import Derived.Test.Qxb6500786aBase
import Derived.Laws.CopyRow
import Derived.Laws.IdiomCopy
set_option linter.unusedSimpArgs false
set_option linter.unusedVariables false
namespace Go
namespace Blk
open Go.RowKit

/-- Bytes as cells, behind a name. -/
def bv (xs : List UInt8) : List Value := xs.map u8v
theorem length_bv (xs : List UInt8) : (bv xs).length = xs.length := by simp [bv]
theorem one_bv (xs : List UInt8) : (bv xs).all (fun v => v.oneCell') = true := by simp [bv, u8v]; intro x _; rfl
theorem bv_at (xs : List UInt8) (i : Nat) (h : i < xs.length) : (bv xs)[i]? = some (.int .u8 (w8 (xs.getD i 0))) := by
  simp [bv, u8v, h]
theorem bv_append (xs ys : List UInt8) : bv (xs ++ ys) = bv xs ++ bv ys := by simp [bv]

/-- ys laid over v from place f on. -/
def lay {n : Nat} (v : Vector UInt8 n) (f : Nat) (ys : List UInt8) : Vector UInt8 n := Vector.ofFn fun i : Fin n => if f ≤ i.val ∧ i.val < f + ys.length then ys.getD (i.val - f) 0 else v[i.val]
theorem lay_at {n : Nat} (v : Vector UInt8 n) (f : Nat) (ys : List UInt8) (i : Nat) (h : i < n) : (lay v f ys)[i] = if f ≤ i ∧ i < f + ys.length then ys.getD (i - f) 0 else v[i] := by simp [lay]
theorem arr_lay {n : Nat} (v : Vector UInt8 n) (f : Nat) (ys : List UInt8) (h : f + ys.length ≤ n) : splice (arr u8v v) f (bv ys) = arr u8v (lay v f ys) := by
  apply List.ext_getElem?
  intro i
  have hl : (splice (arr u8v v) f (bv ys)).length = n := by rw [length_splice _ _ _ (by rw [length_arr, length_bv]; exact h), length_arr]
  by_cases hi : i < n
  · rw [arr_at _ _ hi, lay_at]
    by_cases hm : f ≤ i ∧ i < f + ys.length
    · rw [if_pos hm]
      obtain ⟨j, rfl⟩ : ∃ j, i = f + j := ⟨i - f, by omega⟩
      rw [splice_get (by rw [length_arr, length_bv]; exact h) (by rw [length_bv]; omega), bv_at _ _ (by omega), Nat.add_sub_cancel_left]
      rfl
    · rw [if_neg hm]
      unfold splice
      by_cases h1 : i < f
      · rw [List.append_assoc, List.getElem?_append_left (by simp [length_arr]; omega), List.getElem?_take, if_pos h1, arr_at _ _ hi]
      · have e : ((arr u8v v).take f ++ bv ys).length = f + ys.length := by simp [length_arr, length_bv]; omega
        rw [List.getElem?_append_right (by rw [e]; omega), e, List.getElem?_drop, length_bv, Nat.add_sub_cancel' (by omega), arr_at _ _ hi]
  · rw [List.getElem?_eq_none (by omega), List.getElem?_eq_none (by rw [length_arr]; omega)]

/-! ### Cuts -/
def cutA (a : Option Addr) (l c : Nat) : Option Addr := if c = l then a else a.map (·.add l)
theorem add_addr (b o n : Nat) : (⟨b, o, none⟩ : Addr).add n = ⟨b, o + n, none⟩ := by
  unfold Addr.add; split
  · simp_all
  · rfl
theorem cutA_zero (a : Option Addr) (c : Nat) : cutA a 0 c = a := by
  unfold cutA; split
  · rfl
  · cases a with
    | none => rfl
    | some x => simp [Addr.add]
def sliceOp (t : TypeId) (x : Value) (lo hi mx : Option Value) : Sem Next := do pure (.value (← Instr.sliceAt t x lo hi mx))
theorem execOp_slice (a : Act) (dst : Option Tmp) (t : TypeId) (x : Operand) (lo hi mx : Option Operand) (ty : TypeId) (pos : String) (after : Array Edge) (guard : Option (Nat × Bool)) :
    execOp a.eval { dst, op := .slice t x lo hi mx, type := ty, pos, after, guard } = sliceOp t (a.eval x) (lo.map a.eval) (hi.map a.eval) (mx.map a.eval) := rfl

theorem slice_lo {P : Program} {t e : TypeId} (hu : P.underlying t = some (.slice e)) (hs : (P.info? e).map (·.size) = some 1) (w : World) (a : Option Addr) (len cap l : Nat) (h : l ≤ len) :
    (sliceOp t (.slice a len cap) (some (.int .i64 (l : Int))) none none).run P w = .ok (.value (.slice (cutA a l cap) (len - l) (cap - l))) w := by
  cases hi : P.info? e with
  | none => simp [hi] at hs
  | some i =>
    have h1 : i.size = 1 := by simpa [hi] using hs
    have h2 : (0 : Int) ≤ l ∧ (l : Int) ≤ len := by omega
    simp [sliceOp, Instr.sliceAt, Instr.slice, Instr.sliceBounds, Instr.sliceBound, run_underlying hu, asIntOf, sizeOf, typeInfo, hi, h1, h2, cutA, h]
theorem slice_hi {P : Program} {t e : TypeId} (hu : P.underlying t = some (.slice e)) (hs : (P.info? e).map (·.size) = some 1) (w : World) (a : Option Addr) (len cap l : Nat) (h : l ≤ cap) :
    (sliceOp t (.slice a len cap) none (some (.int .i64 (l : Int))) none).run P w = .ok (.value (.slice a l cap)) w := by
  cases hi : P.info? e with
  | none => simp [hi] at hs
  | some i =>
    have h1 : i.size = 1 := by simpa [hi] using hs
    have h2 : (0 : Int) ≤ l ∧ (l : Int) ≤ cap := by omega
    have h3 := cutA_zero a cap
    simp only [cutA, Option.map] at h3
    simp [sliceOp, Instr.sliceAt, Instr.slice, Instr.sliceBounds, Instr.sliceBound, run_underlying hu, asIntOf, sizeOf, typeInfo, hi, h1, h2, h]
    cases a with
    | none => simp
    | some x => simp [Addr.add]
theorem slice_arr_lo {P : Program} {t e : TypeId} {n : Nat} (hu : P.underlying t = some (.array n e)) (hs : (P.info? e).map (·.size) = some 1) (w : World) (b o l : Nat) (h : l ≤ n) :
    (sliceOp t (.pointer (some ⟨b, o, none⟩)) (some (.int .i64 (l : Int))) none none).run P w = .ok (.value (.slice (cutA (some ⟨b, o, none⟩) l n) (n - l) (n - l))) w := by
  cases hi : P.info? e with
  | none => simp [hi] at hs
  | some i =>
    have h1 : i.size = 1 := by simpa [hi] using hs
    have h2 : (0 : Int) ≤ l ∧ (l : Int) ≤ n := by omega
    simp [sliceOp, Instr.sliceAt, Instr.sureAddr, Instr.sliceBounds, Instr.sliceBound, run_underlying hu, asIntOf, sizeOf, typeInfo, hi, h1, h2, cutA, h]
    split <;> rfl
theorem slice_arr_hi {P : Program} {t e : TypeId} {n : Nat} (hu : P.underlying t = some (.array n e)) (hs : (P.info? e).map (·.size) = some 1) (w : World) (b o l : Nat) (h : l ≤ n) :
    (sliceOp t (.pointer (some ⟨b, o, none⟩)) none (some (.int .i64 (l : Int))) none).run P w = .ok (.value (.slice (some ⟨b, o, none⟩) l n)) w := by
  cases hi : P.info? e with
  | none => simp [hi] at hs
  | some i =>
    have h1 : i.size = 1 := by simpa [hi] using hs
    have h2 : (0 : Int) ≤ l ∧ (l : Int) ≤ n := by omega
    simp [sliceOp, Instr.sliceAt, Instr.sureAddr, Instr.sliceBounds, Instr.sliceBound, run_underlying hu, asIntOf, sizeOf, typeInfo, hi, h1, h2, h, Addr.add]
theorem slice_arr {P : Program} {t e : TypeId} {n : Nat} (hu : P.underlying t = some (.array n e)) (hs : (P.info? e).map (·.size) = some 1) (w : World) (b o : Nat) :
    (sliceOp t (.pointer (some ⟨b, o, none⟩)) none none none).run P w = .ok (.value (.slice (some ⟨b, o, none⟩) n n)) w := by
  cases hi : P.info? e with
  | none => simp [hi] at hs
  | some i =>
    have h1 : i.size = 1 := by simpa [hi] using hs
    simp [sliceOp, Instr.sliceAt, Instr.sureAddr, Instr.sliceBounds, Instr.sliceBound, run_underlying hu, asIntOf, sizeOf, typeInfo, hi, h1, Addr.add]

/-! ### Copies -/
def srcB (w : World) (sp : Option Addr) (n : Nat) : Option (List Value) :=
  if n = 0 then some [] else
  match sp with
  | some ⟨b, o, none⟩ => match blk w b with
    | some S => if o + n ≤ S.length then some (seg S o n) else none
    | none => none
  | _ => none
def copyIn (w : World) (D : Option (List Value)) (b o : Nat) (cs : Option (List Value)) : Option World :=
  match D, cs with
  | some D, some cs => if free w b = true ∧ cs.all (fun v => v.oneCell') = true ∧ o + cs.length ≤ D.length then some (put w b (splice D o cs)) else none
  | _, _ => none
theorem copyIn_some (w : World) (D : List Value) (b o : Nat) (cs : List Value) : copyIn w (some D) b o (some cs) = if free w b = true ∧ cs.all (fun v => v.oneCell') = true ∧ o + cs.length ≤ D.length then some (put w b (splice D o cs)) else none := rfl
def copyOr (x : Option World) (n : Nat) (raw : Result Next) : Result Next :=
  match x with
  | some w => .ok (.value (.int .i64 n)) w
  | none => raw
theorem copyOr_some (w : World) (n : Nat) (raw : Result Next) : copyOr (some w) n raw = .ok (.value (.int .i64 n)) w := rfl
def copyOp (dT sT ty : TypeId) (x y : Value) : Sem Next := do pure (.value (← Builtin.copy_ #[dT, sT] ty #[x, y]))
theorem execOp_copy (a : Act) (dst : Option Tmp) (x y : Operand) (dT sT : TypeId) (ty : TypeId) (pos : String) (after : Array Edge) (guard : Option (Nat × Bool)) :
    execOp a.eval { dst, op := .call { callee := .builtin .copy, args := #[x, y], argTypes := #[dT, sT] }, type := ty, pos, after, guard } = copyOp dT sT ty (a.eval x) (a.eval y) := by
  simp [execOp, resolve, invoke, builtin, copyOp]
def rawCopy (P : Program) (dT sT ty : TypeId) (x y : Value) (w : World) : Result Next := (copyOp dT sT ty x y).run P w

theorem copy_run {P : Program} {dT sT ty e : TypeId} (hu : P.underlying dT = some (.slice e)) (hs : (P.info? e).map (·.size) = some 1) (w : World) (b o dl dc : Nat) (sp : Option Addr) (sl sc : Nat) :
    (copyOp dT sT ty (.slice (some ⟨b, o, none⟩) dl dc) (.slice sp sl sc)).run P w = copyOr (copyIn w (blk w b) b o (srcB w sp (min sl dl))) (min sl dl) (rawCopy P dT sT ty (.slice (some ⟨b, o, none⟩) dl dc) (.slice sp sl sc) w) := by
  cases hb : blk w b with
  | none => rfl
  | some D =>
    cases hc : srcB w sp (min sl dl) with
    | none => rfl
    | some cs =>
      rw [copyIn_some]
      split
      · rename_i h
        obtain ⟨h1, h2, h3⟩ := h
        rw [copyOr_some]
        by_cases h0 : min sl dl = 0
        · have : cs = [] := by simp [srcB, h0] at hc; exact hc
          subst this
          have hrun := run_copy_none (P := P) w dT sT ty e (some ⟨b, o, none⟩) sp dl dc sl sc hu hs h0
          rw [copyOp, Sem.run_bind, hrun, h0]
          have : splice D o [] = D := by simp [splice]
          rw [this, put_same hb]
          rfl
        · obtain ⟨t, ht⟩ := blk_free hb h1
          obtain ⟨b', o', rfl, S, hS, hl, rfl⟩ : ∃ b' o', sp = some ⟨b', o', none⟩ ∧ ∃ S, blk w b' = some S ∧ o' + min sl dl ≤ S.length ∧ cs = seg S o' (min sl dl) := by
            unfold srcB at hc
            rw [if_neg h0] at hc
            split at hc
            · rename_i b' o'
              split at hc
              · rename_i S hS
                split at hc
                · rename_i hl
                  exact ⟨b', o', rfl, S, hS, hl, by simpa using hc.symm⟩
                · simp at hc
              · simp at hc
            · simp at hc
          have hlen : (seg S o' (min sl dl)).length = min sl dl := by simp [seg]; omega
          have hrun := run_copy_row (P := P) w dT sT ty e b o dl dc ⟨b', o', none⟩ sl sc D.toArray t (seg S o' (min sl dl)) hu hs ht hlen
            (by
              intro j v hv
              rw [add_addr, cell_blk hS]
              unfold seg at hv
              rw [List.getElem?_take] at hv
              split at hv
              · rw [List.getElem?_drop] at hv; exact hv
              · simp at hv)
            (by simpa using h3) (by simpa using h2)
          rw [copyOp, Sem.run_bind, hrun]
          rw [hlen]
          show Result.ok (Next.value (goInt ((min sl dl : Nat) : Int))) _ = _
          have e : (List.take o D.toArray.toList ++ seg S o' (min sl dl) ++ List.drop (o + min sl dl) D.toArray.toList) = splice D o (seg S o' (min sl dl)) := by
            unfold splice; rw [hlen]
          rw [e]
          rfl
      · rfl

theorem srcB_drew (w : World) (sp : Option Addr) (n : Nat) : srcB w.drew sp n = srcB w sp n := rfl
theorem srcB_drewN (w : World) (m : Nat) (sp : Option Addr) (n : Nat) : srcB (w.drewN m) sp n = srcB w sp n := rfl
theorem srcB_raw (w : World) (t : Nat → Question → Nat) (d : Nat) (os : Os) (u : Array (Nat × ByteArray)) (sp : Option Addr) (n : Nat) : srcB ⟨w.heap, t, d, os, u⟩ sp n = srcB w sp n := rfl

/-- The slice reads xs; its block is not av. -/
def BytesAt (av : Nat) (w : World) (a : Option Addr) (len cap : Nat) (xs : List UInt8) : Prop :=
  xs.length = len ∧ len ≤ cap ∧ (len < 4611686018427387904 ∧ cap < 9223372036854775808) ∧ (len ≠ 0 → ∃ bp op C, a = some ⟨bp, op, none⟩ ∧ bp ≠ av ∧ blk w bp = some C ∧ op + len ≤ C.length ∧ seg C op len = bv xs)

theorem seg_sub {C : List Value} {o n l m : Nat} (h : l + m ≤ n) : seg C (o + l) m = ((seg C o n).drop l).take m := by
  unfold seg
  apply List.ext_getElem?
  intro i
  simp only [List.getElem?_take, List.getElem?_drop]
  by_cases hi : i < m
  · have : l + i < n := by omega
    simp [hi, this, Nat.add_assoc]
  · simp [hi]

theorem BytesAt.src {av : Nat} {w : World} {a : Option Addr} {len cap n : Nat} {xs : List UInt8} (h : BytesAt av w a len cap xs) (hn : n ≤ len) : srcB w a n = some (bv (xs.take n)) := by
  obtain ⟨h1, h2, h3, h4⟩ := h
  unfold srcB
  by_cases h0 : n = 0
  · subst h0; simp [bv]
  · rw [if_neg h0]
    obtain ⟨bp, op, C, rfl, _, hC, hl, hs⟩ := h4 (by omega)
    simp only [hC]
    rw [if_pos (by omega)]
    have := seg_sub (C := C) (o := op) (n := len) (l := 0) (m := n) (by omega)
    rw [Nat.add_zero, hs] at this
    rw [this]
    simp [bv]

theorem BytesAt.cut {av : Nat} {w : World} {a : Option Addr} {len cap l : Nat} {xs : List UInt8} (h : BytesAt av w a len cap xs) (hl : l ≤ len) : BytesAt av w (cutA a l cap) (len - l) (cap - l) (xs.drop l) := by
  obtain ⟨h1, h2, h3, h4⟩ := h
  refine ⟨by simp [h1], by omega, by omega, fun h0 => ?_⟩
  have hne : ¬ cap = l := by clear h4; omega
  obtain ⟨bp, op, C, rfl, hn, hC, hlen, hs⟩ := h4 (by clear h4; omega)
  clear h4
  refine ⟨bp, op + l, C, ?_, hn, hC, by omega, ?_⟩
  · unfold cutA
    rw [if_neg hne]
    simp [add_addr]
  · rw [seg_sub (n := len) (by omega), hs]
    simp [bv, ← h1]
    rw [List.take_of_length_le (by simp)]

theorem BytesAt.head {av : Nat} {w : World} {a : Option Addr} {len cap l : Nat} {xs : List UInt8} (h : BytesAt av w a len cap xs) (hl : l ≤ len) : BytesAt av w a l cap (xs.take l) := by
  obtain ⟨h1, h2, h3, h4⟩ := h
  refine ⟨by simp; omega, by omega, by omega, fun h0 => ?_⟩
  obtain ⟨bp, op, C, rfl, hn, hC, hlen, hs⟩ := h4 (by omega)
  refine ⟨bp, op, C, rfl, hn, hC, by omega, ?_⟩
  have := seg_sub (C := C) (o := op) (n := len) (l := 0) (m := l) (by omega)
  rw [Nat.add_zero, hs] at this
  rw [this]; simp [bv]

theorem BytesAt.mono {av : Nat} {w w' : World} {a : Option Addr} {len cap : Nat} {xs : List UInt8} (h : BytesAt av w a len cap xs) (hw : ∀ b, b < w.heap.size → b ≠ av → blk w' b = blk w b) : BytesAt av w' a len cap xs := by
  obtain ⟨h1, h2, h3, h4⟩ := h
  refine ⟨h1, h2, h3, fun h0 => ?_⟩
  obtain ⟨bp, op, C, ha, hn, hC, hlen, hs⟩ := h4 h0
  exact ⟨bp, op, C, ha, hn, by rw [hw bp (blk_lt hC) hn]; exact hC, hlen, hs⟩
theorem BytesAt.out {av : Nat} {w w' : World} {a : Option Addr} {len cap : Nat} {xs : List UInt8} {X : List Value} (h : BytesAt av w a len cap xs) (ho : Out w w' av X) : BytesAt av w' a len cap xs :=
  h.mono fun b hb hn => ho.blk_other hb hn
theorem BytesAt.cell {av : Nat} {w : World} {a : Option Addr} {len cap j : Nat} {xs : List UInt8} (h : BytesAt av w a len cap xs) (h0 : 0 < len) :
    ∃ bp op, a = some ⟨bp, op, none⟩ ∧ bp ≠ av ∧ bp < w.heap.size ∧ ∀ j, j < len → cellAt (blk w bp) (op + j) = some (.int .u8 (w8 (xs.getD j 0))) := by
  obtain ⟨h1, h2, h3, h4⟩ := h
  obtain ⟨bp, op, C, ha, hn, hC, hlen, hs⟩ := h4 (by omega)
  refine ⟨bp, op, ha, hn, blk_lt hC, fun j hj => ?_⟩
  rw [hC, cellAt_some]
  have h5 := bv_at xs j (by omega)
  rw [← hs] at h5
  unfold seg at h5
  rw [List.getElem?_take, if_pos hj, List.getElem?_drop] at h5
  exact h5
end Blk
end Go
