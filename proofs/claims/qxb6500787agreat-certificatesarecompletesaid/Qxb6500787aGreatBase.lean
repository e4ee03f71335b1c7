
import Derived.Test.Qxb6500787aGreatLoop
import Derived.StillTailTactics
import Derived.Deep.QuietTactic
import Derived.BigQuiet
import Derived.Deep.RegionHeld
import Derived.Deep.CutRange
import Derived.Laws.ResultCell
import Derived.Laws.Rows
import Derived.DeepKeys
import Derived.DataBytes
import Derived.Laws.StructEq
import Derived.Laws.AppendOwn
import Derived.Laws.MakeOwn
set_option linter.unusedSimpArgs false
set_option linter.unusedVariables false
namespace Go.Proofs.Qxb6500787aGreat
open Go.RowKit Go.Blk
attribute [local go_sem ↓] execOp_load execOp_store execOp_alloc
attribute [local go_sem] Tryz.ld26 Tryz.st26 Tryz.ld27 Tryz.st27 Tryz.ld28 Tryz.st28 Tryz.ld3 Tryz.st3 Tryz.ld29 Tryz.st29 Tryz.ld4 Tryz.st4 Tryz.ld50 Tryz.st50 Tryz.ld68 Tryz.st68 Tryz.ld9 Tryz.st9 Tryz.ld2 Tryz.st2 Tryz.ld5 Tryz.st5 Tryz.ld12 Tryz.st12 Tryz.ld21 Tryz.st21 Tryz.ld22 Tryz.st22 Tryz.ld24 Tryz.st24 Tryz.ld32 Tryz.st32 Tryz.ld40 Tryz.st40 Tryz.ld44 Tryz.st44 Tryz.ld49 Tryz.st49 Tryz.ld58 Tryz.st58 Tryz.ld97 Tryz.st97 Tryz.ld101 Tryz.st101 Tryz.ld116 Tryz.st116 Tryz.ld121 Tryz.st121 Tryz.ld135 Tryz.st135 Tryz.ld136 Tryz.st136 Tryz.ld138 Tryz.st138 Tryz.ld139 Tryz.st139 Tryz.ld142 Tryz.st142 Tryz.ld143 Tryz.st143 Tryz.ld146 Tryz.st146 Tryz.ld148 Tryz.st148 Tryz.ld154 Tryz.st154 Tryz.ld159 Tryz.st159 Tryz.ld173 Tryz.st173 Tryz.ld183 Tryz.st183 Tryz.ld184 Tryz.st184 Tryz.ld187 Tryz.st187 Tryz.ld192 Tryz.st192 Tryz.ld195 Tryz.st195 Tryz.ld217 Tryz.st217 Tryz.ld222 Tryz.st222 Tryz.ld241 Tryz.st241 Tryz.ld248 Tryz.st248 Tryz.ld268 Tryz.st268 Tryz.ld272 Tryz.st272 Tryz.ld129 Tryz.st129 Tryz.ld31 Tryz.st31 Tryz.ld52 Tryz.st52 Tryz.ld70 Tryz.st70 Tryz.ld74 Tryz.st74 Tryz.ld93 Tryz.st93 Tryz.al129 Tryz.al31 Tryz.al52 Tryz.al70 Tryz.al74 Tryz.al93
attribute [local go_sem] Request.length_enc Request.ok_enc Request.all_get Request.all_set Request.kind_get Request.kind_set Request.blob_get Request.blob_set Request.items_get Request.items_set Request.pred_get Request.pred_set Request.slots_get Request.slots_set Item.length_enc Item.ok_enc Item.all_get Item.all_set Item.del_get Item.del_set Item.pred_get Item.pred_set Item.args_get Item.args_set GOp.length_enc GOp.ok_enc GOp.all_get GOp.all_set GOp.kind_get GOp.kind_set GOp.raw_get GOp.raw_set Reader.length_enc Reader.ok_enc Reader.all_get Reader.all_set Reader.buf_get Reader.buf_set Reader.at__get Reader.at__set Slot.length_enc Slot.ok_enc Slot.all_get Slot.all_set Slot.bound_get Slot.bound_set Slot.name_get Slot.name_set
attribute [local go_sem] size_put size_ext blk_put free_put blk_alloc free_alloc blk_drew free_drew blk_ext free_ext lookOr_some putOr_some segAt_some cellAt_some storeIn_some put_put put_alloc_new length_arr ok_arr_u8 ok_arr_u32 ok_arr_u64 ok_arr_i64 ok_arr_sl cellsV_agg cellsV_int cellsV_bool cellsV_string cellsV_pointer cellsV_slice cellsV_sl ok_int ok_bool ok_string ok_pointer ok_slice ok_sl toList_arr seg_arr set_arr nth_splice nth_splice0 seg_splice seg_splice0 splice_splice splice_splice0 length_splice_if
theorem blk_raw (w : World) (t : Nat → Question → Nat) (d : Nat) (os : Os) (u : Array (Nat × ByteArray)) (b : Nat) : blk ⟨w.heap, t, d, os, u⟩ b = blk w b := rfl
theorem free_raw (w : World) (t : Nat → Question → Nat) (d : Nat) (os : Os) (u : Array (Nat × ByteArray)) (b : Nat) : free ⟨w.heap, t, d, os, u⟩ b = free w b := rfl
theorem blk_drewN (w : World) (n b : Nat) : blk (w.drewN n) b = blk w b := rfl
theorem free_drewN (w : World) (n b : Nat) : free (w.drewN n) b = free w b := rfl
theorem put_drewN (w : World) (n b : Nat) (D : List Value) : put (w.drewN n) b D = (put w b D).drewN n := rfl
theorem _root_.Go.Blk.Out.drewN {w w' : World} {b : Nat} {X : List Value} (h : Out w w' b X) (n : Nat) : Out w (w'.drewN n) b X := by obtain ⟨G, m, rfl⟩ := h; exact ⟨G, m + n, by simp [ext, World.drewN, Nat.add_assoc]⟩
theorem wraps_i64 (n : Int) (h₀ : 0 ≤ n) (h₁ : n < 2 ^ 63) : IntKind.i64.wrap n = n := by rw [IntKind.wrap_i64]; omega
theorem Tryz.mixed : Tryz.prog.follows .mixedOrders = true := by kernel_rfl
def lenV : Value → Nat
  | .slice _ n _ => n
  | _ => 0
/-- One round; the ring's step; t rounds; a block; all blocks. -/
theorem wp_world {P : Program} {c : Code} {Q : Exit → Act → World → Prop} {a : Act} {W : World} (F : World → Prop) (hF : F W) (h : ∀ W', F W' → Code.wp P c Q a W') : Code.wp P c Q a W := h W hF
theorem w8_lt (a : UInt8) : a.toNat < 256 := a.toNat_lt
theorem ret_cell {P : Program} {fn : Func} {R : Ending → World → Prop} {a : Act} {w : World} {p : Tmp} {ty : TypeId} {g : Nat} {C : List Value} (h : fn.results = #[.cell p ty]) (hp : a.tmps.getD p undef = .pointer (some ⟨g, 0, none⟩)) (hb : blk w g = some C)
    (hr : ((P.underlying ty).map fun d => (match d with | .struct _ | .array _ _ => true | _ => false)) = some true) (hi : (P.info? ty).map (·.size) = some C.length) (hdf : a.defers = []) (hR : R (.returned (.agg C.toArray)) w) : bodyPost P fn R .ret a w := by
  obtain ⟨t, fz, ht⟩ := blk_some hb
  obtain ⟨d, hu, hd⟩ : ∃ d, P.underlying ty = some d ∧ (match d with | .struct _ | .array _ _ => true | _ => false) = true := by
    cases hx : P.underlying ty with
    | none => simp [hx] at hr
    | some d => exact ⟨d, rfl, by simpa [hx] using hr⟩
  exact bodyPost_ret (results_cell_row h a.tmps w g t C.toArray fz d hp ht hu (by cases d <;> simp_all) (by simpa using hi)) hdf hR
theorem ret_cell_tmp {P : Program} {fn : Func} {R : Ending → World → Prop} {a : Act} {w : World} {p u : Tmp} {ty : TypeId} {g : Nat} {C : List Value} {v : Value} (h : fn.results = #[.cell p ty, .tmp u]) (hp : a.tmps.getD p undef = .pointer (some ⟨g, 0, none⟩)) (hv : a.tmps.getD u undef = v) (hb : blk w g = some C)
    (hr : ((P.underlying ty).map fun d => (match d with | .struct _ | .array _ _ => true | _ => false)) = some true) (hi : (P.info? ty).map (·.size) = some C.length) (hdf : a.defers = []) (hR : R (.returned (.tuple #[.agg C.toArray, v])) w) : bodyPost P fn R .ret a w := by
  obtain ⟨t, fz, ht⟩ := blk_some hb
  obtain ⟨d, hu, hd⟩ : ∃ d, P.underlying ty = some d ∧ (match d with | .struct _ | .array _ _ => true | _ => false) = true := by
    cases hx : P.underlying ty with
    | none => simp [hx] at hr
    | some d => exact ⟨d, rfl, by simpa [hx] using hr⟩
  refine bodyPost_ret ?_ hdf hR
  rw [results_cell_tmp h, hp, hv]
  have hp' := run_loadVar_row (P := P) w g t ty C.toArray fz d ht hu (by cases d <;> simp_all) (by simpa using hi)
  simp [asAddr, hp', Result.andThen]
def boxOp (t : TypeId) (v : Value) : Sem Next := do pure (.value (← Instr.box t v))
theorem execOp_box (a : Act) (dst : Option Tmp) (t : TypeId) (x : Operand) (ty : TypeId) (pos : String) (after : Array Edge) (guard : Option (Nat × Bool)) :
    execOp a.eval { dst, op := .box t x, type := ty, pos, after, guard } = boxOp t (a.eval x) := rfl
theorem box_run {P : Program} (w : World) (t : TypeId) (L : List Value) : (boxOp t (.agg L.toArray)).run P w = .ok (.value (.pointer (some ⟨w.heap.size, 0, none⟩))) (w.alloc (.cells L.toArray t)) := by
  simp [boxOp, Instr.box, newVar, newRow, Value.cells]
theorem ext_Ext {w w' : World} (h : Ext w w') : w.Extends w' := by
  obtain ⟨G, n, rfl⟩ := h
  have hb : ∀ i, i < w.heap.size → (ext w G n).heap[i]? = w.heap[i]? := fun i hi => by rw [heap_ext, if_pos hi]
  exact ⟨rfl, rfl, rfl, by rw [size_ext]; omega, fun a ha => World.cell?_of_block (hb _ ha), fun a ha => World.frozen?_of_block (hb _ ha), hb⟩
theorem extends_alloc {w W : World} (h : w.Extends W) (o : Obj) : w.Extends (W.alloc o) := by
  have hb : ∀ i, i < w.heap.size → (W.alloc o).heap[i]? = w.heap[i]? := fun i hi => by rw [heap_alloc_old _ _ (Nat.lt_of_lt_of_le hi h.size)]; exact h.block i hi
  exact ⟨h.os, h.tape, h.output, by rw [World.size_alloc]; have := h.size; omega, fun a ha => World.cell?_of_block (hb _ ha), fun a ha => World.frozen?_of_block (hb _ ha), hb⟩
theorem extends_drewN {w W : World} (h : w.Extends W) (n : Nat) : w.Extends (W.drewN n) :=
  ⟨h.os, h.tape, h.output, h.size, h.cell, h.frozen, h.block⟩
theorem extends_drew {w W : World} (h : w.Extends W) : w.Extends W.drew :=
  ⟨h.os, h.tape, h.output, h.size, h.cell, h.frozen, h.block⟩
theorem blk_of_heap {w W : World} {b : Nat} (h : W.heap[b]? = w.heap[b]?) : blk W b = blk w b := by unfold blk; rw [h]
theorem free_of_heap {w W : World} {b : Nat} (h : W.heap[b]? = w.heap[b]?) : free W b = free w b := by unfold free; rw [h]
theorem _root_.Go.World.Extends.blk {w W : World} (h : w.Extends W) {b : Nat} (hb : b < w.heap.size) : Blk.blk W b = Blk.blk w b := blk_of_heap (h.block b hb)
theorem _root_.Go.Blk.Ext.drewN {w W : World} (h : Ext w W) (n : Nat) : Ext w (W.drewN n) := by obtain ⟨G, m, rfl⟩ := h; exact ⟨G, m + n, by simp [World.drewN, Blk.ext, Nat.add_assoc]⟩
end Go.Proofs.Qxb6500787aGreat
