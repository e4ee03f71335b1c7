/- Equality of digests; the conversion of a text to bytes. -/
import Derived.Test.Qxb6500785aHex
import Derived.DeepKeys
import Derived.DataBytes
import Derived.Laws.IdiomStrings
import Derived.Laws.AppendOwn
set_option linter.unusedSimpArgs false
set_option linter.unusedVariables false
namespace Go.Proofs.Qxb6500785a
open Go.RowKit Go.Blk
theorem cells31' : Try.prog.cellsOf 31 = 32 := by kernel_rfl
theorem cells5' : Try.prog.cellsOf 5 = 1 := by kernel_rfl
def litU8 (x : UInt8) : Lit := .int .u8 (w8 x)
theorem wf_u8 (x : UInt8) : (litU8 x).wf = true := by
  have := w8_lt x
  simp [litU8, Lit.wf, IntKind.min, IntKind.max, IntKind.signed, IntKind.bits, w8]
  omega
theorem lits31 (v : Vector UInt8 32) : Try.prog.keyLits 2 31 (arr u8v v) = some (v.toList.map litU8) := by
  unfold Program.keyLits
  rw [Try.underlying31]
  simp only [cells31', cells5', length_arr, if_true]
  rw [mapM_some_of_forall (g := fun i => [litU8 (v.toList.getD i 0)])]
  · rw [Option.map_some]
    congr 1
    have e1 : ∀ n, ((List.range n).map (fun i => [litU8 (v.toList.getD i 0)])).flatten = (List.range n).map (fun i => litU8 (v.toList.getD i 0)) := fun n => by
      induction n with
      | zero => rfl
      | succ n ih => rw [List.range_succ, List.map_append, List.map_append, List.flatten_append, ih]; rfl
    rw [e1]
    apply List.ext_getElem?
    intro i
    by_cases hi : i < 32
    · simp [hi]
    · rw [List.getElem?_eq_none (by simp; omega), List.getElem?_eq_none (by simp; omega)]
  · intro i hi
    have hi' : i < 32 := by simpa using hi
    have hc : ((arr u8v v).drop (i * 1)).take 1 = [.int .u8 (w8 v[i])] := by
      apply List.ext_getElem?
      intro j
      rw [List.getElem?_take, Nat.mul_one]
      cases j with
      | zero => simp [List.getElem?_drop, arr_at _ _ hi', u8v]
      | succ j => simp
    rw [hc]
    unfold Program.keyLits
    rw [Try.underlying5]
    have hw := wf_u8 v[i]
    unfold litU8 at hw ⊢
    simp [hw, hi']
theorem eq31 (w : World) (a b : Vector UInt8 32) : (Op.equalIn 10000 31 (.agg (arr u8v a).toArray) (.agg (arr u8v b).toArray)).run Try.prog w = .ok (decide (a = b)) w := by
  have hk : Try.prog.keyTypeAt 2 31 = true := by kernel_rfl
  have hf : ∀ v : Vector UInt8 32, (Value.agg (arr u8v v).toArray).formed Try.prog 31 = true := fun v => by
    simp [Value.formed, Try.underlying31, length_arr, cells31']
  obtain ⟨r, hr, hiff⟩ := run_equalIn_deep (P := Try.prog) 9998 2 31 hk w 2 2 _ _ _ _ (hf a) (hf b) (lits31 a) (lits31 b)
  have inj : a.toList.map litU8 = b.toList.map litU8 ↔ a = b := by
    constructor
    · intro h
      apply Vector.ext
      intro i hi
      have h1 := congrArg (fun l => l[i]?) h
      simp [hi, litU8] at h1
      unfold w8 at h1
      exact UInt8.toNat_inj.1 (by omega)
    · rintro rfl; rfl
  by_cases hab : a = b
  · rw [hr, hiff.2 (inj.2 hab), decide_eq_true hab]
  · have hr2 : r = false := by
      cases r with
      | true => exact absurd (inj.1 (hiff.1 rfl)) hab
      | false => rfl
    rw [hr, hr2, decide_eq_false hab]
theorem eql31 (w : World) (a b : Vector UInt8 32) : (binOp .eql 31 (.agg (arr u8v a).toArray) (.agg (arr u8v b).toArray)).run Try.prog w = .ok (.bool (decide (a = b))) w := by
  rw [run_eql_struct, eq31]; rfl
theorem neq31 (w : World) (a b : Vector UInt8 32) : (binOp .neq 31 (.agg (arr u8v a).toArray) (.agg (arr u8v b).toArray)).run Try.prog w = .ok (.bool (!decide (a = b))) w := by
  rw [run_neq_struct, eq31]; rfl
def convC (w : World) (s : List UInt8) : Nat := grownCap w s.length 0 5
def convR (w : World) (s : List UInt8) : Array Value := bytesRow ⟨s.toArray⟩ (convC w s)
def convW (w : World) (s : List UInt8) : World := w.drew.alloc (.cells (convR w s) 5 ((convR w s).size, (convR w s).size + 1))
theorem execOp_convert9 (a : Act) (dst : Option Tmp) (x : Operand) (ty : TypeId) (pos : String) (after : Array Edge) (guard : Option (Nat × Bool)) :
    execOp a.eval { dst, op := .convert 9 40 x, type := ty, pos, after, guard } = convOp 9 40 (a.eval x) := rfl
theorem conv_bytes (w : World) (s : List UInt8) : (convOp 9 40 (.string ⟨s.toArray⟩)).run Try.prog w = .ok (.value (.slice (some ⟨w.heap.size, 0, none⟩) s.length (convC w s))) (convW w s) := by
  have hc := run_bytes_of_string (P := Try.prog) w 9 40 5 ⟨s.toArray⟩ Try.underlying9 Try.underlying40 Try.underlying5
  unfold convOp
  rw [Sem.run_bind, hc]
  rfl
theorem convW_ext (w : World) (s : List UInt8) : Ext w (convW w s) := ((Ext.refl w).drew).alloc _
theorem convW_size (w : World) (s : List UInt8) : (convW w s).heap.size = w.heap.size + 1 := by unfold convW; rw [World.size_alloc]; rfl
theorem convW_blk (w : World) (s : List UInt8) : blk (convW w s) w.heap.size = some (bv s ++ List.replicate (convC w s - s.length) (.int .u8 0)) := by
  have h : (convW w s).heap[w.heap.size]? = some (.cells (convR w s) 5 ((convR w s).size, (convR w s).size + 1)) := by
    unfold convW
    rw [heap_alloc, if_pos (show w.heap.size = w.drew.heap.size from rfl)]
  rw [blk_mk h]
  unfold convR bytesRow
  have hs : (⟨s.toArray⟩ : ByteArray).size = s.length := by simp [ByteArray.size]
  simp [hs, bv]
  intro a _
  rfl
theorem convC_le (w : World) (s : List UInt8) : s.length ≤ convC w s := grownCap_ge _ _ _ _
theorem convW_bytes (w : World) (s : List UInt8) (av : Nat) (h : w.heap.size ≠ av) (hs : s.length < 4611686018427387904) : BytesAt av (convW w s) (some ⟨w.heap.size, 0, none⟩) s.length (convC w s) s := by
  have hm : convC w s ≤ maxLen := grownCap_le_maxLen _ _ _ _ (by simp only [maxLen]; omega)
  simp only [maxLen] at hm
  refine ⟨rfl, convC_le w s, ⟨hs, by omega⟩, fun _ => ⟨w.heap.size, 0, _, rfl, h, convW_blk w s, by simp [length_bv], ?_⟩⟩
  unfold seg
  rw [List.drop_zero, List.take_append_of_le_length (by rw [length_bv]; exact Nat.le_refl _), List.take_of_length_le (by rw [length_bv]; exact Nat.le_refl _)]
end Go.Proofs.Qxb6500785a
