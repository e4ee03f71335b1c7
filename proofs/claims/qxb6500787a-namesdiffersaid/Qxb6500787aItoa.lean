/- itoa at two numbers: its block of twenty bytes, its loop unrolled. -/
import Derived.Test.Qxb6500787aProg
import Derived.Test.Qxb6500787aMem
set_option linter.unusedSimpArgs false
set_option linter.unusedVariables false
namespace Go.Proofs.Qxb6500787a
open Go.RowKit Go.Blk

theorem Try.ld5 (w : World) (b o : Nat) : (loadOp 5 (.pointer (some ⟨b, o, none⟩))).run Try.prog w = lookOr (cellAt (blk w b) o) w (rawLoad Try.prog 5 ⟨b, o, none⟩ w) := load_one Try.underlying5 rfl w b o
theorem Try.st5 (w : World) (b o : Nat) (v : Value) : (storeOp 5 (.pointer (some ⟨b, o, none⟩)) v).run Try.prog w = putOr (storeIn w (blk w b) b o 1 v) (rawStore Try.prog 5 ⟨b, o, none⟩ v w) := store_any (by kernel_rfl) w b o v
theorem Try.al129 (w : World) : (allocOp 129).run Try.prog w = .ok (.value (.pointer (some ⟨w.heap.size, 0, none⟩))) (w.alloc (.cells (arr u8v (Vector.replicate 20 0 : Vector UInt8 20)).toArray 129)) := alloc_any (v := .agg (arr u8v (Vector.replicate 20 0 : Vector UInt8 20)).toArray) (by kernel_rfl) w

/-! ### []byte to string -/
def convOp (s d : TypeId) (v : Value) : Sem Next := do pure (.value (← convert s d v))
theorem execOp_convert (a : Act) (dst : Option Tmp) (x : Operand) (ty : TypeId) (pos : String) (after : Array Edge) (guard : Option (Nat × Bool)) :
    execOp a.eval { dst, op := .convert 27 9 x, type := ty, pos, after, guard } = convOp 27 9 (a.eval x) := rfl
def strAt {n : Nat} (V : Vector UInt8 n) (o l : Nat) : ByteArray := ⟨((V.toList.drop o).take l).toArray⟩
theorem conv_arr {n : Nat} (V : Vector UInt8 n) (w : World) (b o l c : Nat) (hb : blk w b = some (arr u8v V)) (h : o + l ≤ n) :
    (convOp 27 9 (.slice (some ⟨b, o, none⟩) l c)).run Try.prog w = .ok (.value (.string (strAt V o l))) w := by
  have hc := run_convert_bytes_arg (P := Try.prog) w 27 5 Try.underlying27 Try.underlying5 b o l c (((V.toList.drop o).take l).map fun x => (x.toNat : Int)) (by simp; omega) (by
    intro i hi
    rw [cell_blk hb]
    have h2 : o + i < n := by omega
    rw [arr_at _ _ h2]
    simp [u8v, w8, List.getElem?_map, List.getElem?_take, hi, List.getElem?_drop, h2]) 9 Try.underlying9
  unfold convOp
  rw [Sem.run_bind, hc]
  simp [strAt, strOfNums, Function.comp_def]

attribute [local go_sem ↓] execOp_load execOp_store execOp_alloc execOp_convert
attribute [local go_sem] Try.ld5 Try.st5 Try.al129 size_put size_ext blk_put free_put blk_alloc free_alloc blk_drew free_drew blk_ext free_ext lookOr_some putOr_some segAt_some cellAt_some storeIn_some put_put put_alloc_new length_arr ok_arr_u8 cellsV_agg cellsV_int ok_int toList_arr seg_arr set_arr nth_arr_u8 put_arr_u8 conv_arr
set_option maxRecDepth 20000 in
set_option maxHeartbeats 1000000 in
theorem itoa43 (w : World) : Calls Try.prog 49 #[.int .i64 43] w fun e w' => e = .returned (.string ⟨#[52, 51]⟩) ∧ Grown w w' := by
  have S51 : ∀ (v : Vector UInt8 20) (i : Nat) (h : i < 20), splice (arr u8v v) i [.int .u8 51] = arr u8v (v.set i 51 h) := fun v i h => put_arr_u8 v 51 h
  have S52 : ∀ (v : Vector UInt8 20) (i : Nat) (h : i < 20), splice (arr u8v v) i [.int .u8 52] = arr u8v (v.set i 52 h) := fun v i h => put_arr_u8 v 52 h
  go_enter Try.func49, Try.ntmps49
  go_wp2
  refine wp_loop_rounds 3 ?_
  rw [rounds_succ]
  repeat go_step
  rw [rounds_succ]
  repeat go_step
  rw [rounds_succ]
  repeat go_step
  rw [conv_arr (((Vector.replicate 20 0 : Vector UInt8 20).set 19 51 (by decide)).set 18 52 (by decide)) _ _ _ _ _ (by rw [blk_alloc, if_pos rfl]) (by decide)]
  repeat go_step
  go_ret
  exact ⟨rfl, Grown.alloc (Grown.refl _) _ _⟩
set_option maxRecDepth 20000 in
set_option maxHeartbeats 1000000 in
theorem itoa8 (w : World) : Calls Try.prog 49 #[.int .i64 8] w fun e w' => e = .returned (.string ⟨#[56]⟩) ∧ Grown w w' := by
  have S56 : ∀ (v : Vector UInt8 20) (i : Nat) (h : i < 20), splice (arr u8v v) i [.int .u8 56] = arr u8v (v.set i 56 h) := fun v i h => put_arr_u8 v 56 h
  go_enter Try.func49, Try.ntmps49
  go_wp2
  refine wp_loop_rounds 2 ?_
  rw [rounds_succ]
  repeat go_step
  rw [rounds_succ]
  repeat go_step
  rw [conv_arr ((Vector.replicate 20 0 : Vector UInt8 20).set 19 56 (by decide)) _ _ _ _ _ (by rw [blk_alloc, if_pos rfl]) (by decide)]
  repeat go_step
  go_ret
  exact ⟨rfl, Grown.alloc (Grown.refl _) _ _⟩
end Go.Proofs.Qxb6500787a
