
import Derived.Test.Qxb6500787aGreatRp
import Derived.StillTailTactics
import Derived.Deep.QuietTactic
import Derived.BigQuiet
import Derived.Deep.RegionHeld
import Derived.Deep.CutRange
import Derived.Laws.ResultCell
import Derived.Laws.Rows
import Derived.DeepKeys
import Derived.DataBytes
import Derived.Laws.StructEq
import Derived.Laws.AppendOwn
import Derived.Laws.MakeOwn
set_option linter.unusedSimpArgs false
set_option linter.unusedVariables false
namespace Go.Proofs.Qxb6500787aGreat
open Go.RowKit Go.Blk
attribute [local go_sem ↓] execOp_load execOp_store execOp_alloc
attribute [local go_sem] Tryz.ld26 Tryz.st26 Tryz.ld27 Tryz.st27 Tryz.ld28 Tryz.st28 Tryz.ld3 Tryz.st3 Tryz.ld29 Tryz.st29 Tryz.ld4 Tryz.st4 Tryz.ld50 Tryz.st50 Tryz.ld68 Tryz.st68 Tryz.ld9 Tryz.st9 Tryz.ld2 Tryz.st2 Tryz.ld5 Tryz.st5 Tryz.ld12 Tryz.st12 Tryz.ld21 Tryz.st21 Tryz.ld22 Tryz.st22 Tryz.ld24 Tryz.st24 Tryz.ld32 Tryz.st32 Tryz.ld40 Tryz.st40 Tryz.ld44 Tryz.st44 Tryz.ld49 Tryz.st49 Tryz.ld58 Tryz.st58 Tryz.ld97 Tryz.st97 Tryz.ld101 Tryz.st101 Tryz.ld116 Tryz.st116 Tryz.ld121 Tryz.st121 Tryz.ld135 Tryz.st135 Tryz.ld136 Tryz.st136 Tryz.ld138 Tryz.st138 Tryz.ld139 Tryz.st139 Tryz.ld142 Tryz.st142 Tryz.ld143 Tryz.st143 Tryz.ld146 Tryz.st146 Tryz.ld148 Tryz.st148 Tryz.ld154 Tryz.st154 Tryz.ld159 Tryz.st159 Tryz.ld173 Tryz.st173 Tryz.ld183 Tryz.st183 Tryz.ld184 Tryz.st184 Tryz.ld187 Tryz.st187 Tryz.ld192 Tryz.st192 Tryz.ld195 Tryz.st195 Tryz.ld217 Tryz.st217 Tryz.ld222 Tryz.st222 Tryz.ld241 Tryz.st241 Tryz.ld248 Tryz.st248 Tryz.ld268 Tryz.st268 Tryz.ld272 Tryz.st272 Tryz.ld129 Tryz.st129 Tryz.ld31 Tryz.st31 Tryz.ld52 Tryz.st52 Tryz.ld70 Tryz.st70 Tryz.ld74 Tryz.st74 Tryz.ld93 Tryz.st93 Tryz.al129 Tryz.al31 Tryz.al52 Tryz.al70 Tryz.al74 Tryz.al93
attribute [local go_sem] Request.length_enc Request.ok_enc Request.all_get Request.all_set Request.kind_get Request.kind_set Request.blob_get Request.blob_set Request.items_get Request.items_set Request.pred_get Request.pred_set Request.slots_get Request.slots_set Item.length_enc Item.ok_enc Item.all_get Item.all_set Item.del_get Item.del_set Item.pred_get Item.pred_set Item.args_get Item.args_set GOp.length_enc GOp.ok_enc GOp.all_get GOp.all_set GOp.kind_get GOp.kind_set GOp.raw_get GOp.raw_set Reader.length_enc Reader.ok_enc Reader.all_get Reader.all_set Reader.buf_get Reader.buf_set Reader.at__get Reader.at__set Slot.length_enc Slot.ok_enc Slot.all_get Slot.all_set Slot.bound_get Slot.bound_set Slot.name_get Slot.name_set
attribute [local go_sem] size_put size_ext blk_put free_put blk_alloc free_alloc blk_drew free_drew blk_ext free_ext lookOr_some putOr_some segAt_some cellAt_some storeIn_some put_put put_alloc_new length_arr ok_arr_u8 ok_arr_u32 ok_arr_u64 ok_arr_i64 ok_arr_sl cellsV_agg cellsV_int cellsV_bool cellsV_string cellsV_pointer cellsV_slice cellsV_sl ok_int ok_bool ok_string ok_pointer ok_slice ok_sl toList_arr seg_arr set_arr nth_splice nth_splice0 seg_splice seg_splice0 splice_splice splice_splice0 length_splice_if
attribute [local go_sem ↓] execOp_box
attribute [local go_sem] box_run nth_arr_u8 put_arr_u8 blk_drewN free_drewN put_drewN blk_raw free_raw
set_option maxRecDepth 100000 in
theorem frame80 (f : Nat → Value) : frameN 80 f = #[f 0, f 1, f 2, f 3, f 4, f 5, f 6, f 7, f 8, f 9, f 10, f 11, f 12, f 13, f 14, f 15, f 16, f 17, f 18, f 19, f 20, f 21, f 22, f 23, f 24, f 25, f 26, f 27, f 28, f 29, f 30, f 31, f 32, f 33, f 34, f 35, f 36, f 37, f 38, f 39, f 40, f 41, f 42, f 43, f 44, f 45, f 46, f 47, f 48, f 49, f 50, f 51, f 52, f 53, f 54, f 55, f 56, f 57, f 58, f 59, f 60, f 61, f 62, f 63, f 64, f 65, f 66, f 67, f 68, f 69, f 70, f 71, f 72, f 73, f 74, f 75, f 76, f 77, f 78, f 79] := by kernel_rfl
theorem eqFields_all {P : Program} (w : World) (d : Nat) (xs ys : Array Value) (r : Nat → Bool) : ∀ fs : List Field, (∀ f ∈ fs, f.name ≠ "_" ∧ ∃ a b, (part f.type xs f.offset).run P w = .ok a w ∧ (part f.type ys f.offset).run P w = .ok b w ∧ (Op.equalIn d f.type a b).run P w = .ok (r f.offset) w) → (Op.eqFields d xs ys fs).run P w = .ok ((fs.map (fun f => f.offset)).all r) w
  | [], _ => rfl
  | f :: fs, h => by
    obtain ⟨hn, a, b, h1, h2, h3⟩ := h f (List.mem_cons_self ..)
    have ih := eqFields_all w d xs ys r fs fun f' hf => h f' (List.mem_cons_of_mem _ hf)
    unfold Op.eqFields
    rw [if_pos hn]
    simp only [Sem.run_bind, h1, h2, h3, Result.andThen_ok]
    rw [List.map_cons, List.all_cons]
    cases hr : r f.offset with
    | true => simpa using ih
    | false => simp
theorem fields93 : (Tryz.prog.fieldsOf 93).toList.map (fun f => (f.type, f.offset)) = [(4, 0), (9, 1)] := by kernel_rfl
theorem named93 : ∀ f ∈ (Tryz.prog.fieldsOf 93).toList, f.name ≠ "_" := by
  have h : ((Tryz.prog.fieldsOf 93).toList.all fun f => f.name != "_") = true := by kernel_rfl
  intro f hf
  simpa using List.all_eq_true.1 h f hf
theorem eq93 (w : World) (d : Nat) (b : Bool) (s : List UInt8) : (Op.equalIn (d + 3) 93 (.agg (slotE b s).toArray) (.agg (slotE b s).toArray)).run Tryz.prog w = .ok true w := by
  rw [run_equalIn_struct w (d + 2) 93 _ _ (by kernel_rfl) (by kernel_rfl), eqFields_all w (d + 2) _ _ (fun _ => true) _ ?_]
  · rw [show ∀ l : List Nat, l.all (fun _ => true) = true from fun l => List.all_eq_true.2 (fun _ _ => rfl)]
  intro f hf
  refine ⟨named93 f hf, ?_⟩
  have hm : (f.type, f.offset) ∈ (Tryz.prog.fieldsOf 93).toList.map (fun f => (f.type, f.offset)) := List.mem_map.2 ⟨f, hf, rfl⟩
  rw [fields93] at hm
  simp only [List.mem_cons, Prod.mk.injEq, List.mem_nil_iff, or_false] at hm
  rcases hm with ⟨h1, h2⟩ | ⟨h1, h2⟩ <;> rw [h1, h2]
  · refine ⟨.bool b, .bool b, run_part_plain w (by kernel_rfl) rfl, run_part_plain w (by kernel_rfl) rfl, ?_⟩
    rw [run_equalIn_bool' w (d + 1) 4 b b Tryz.underlying4]
    simp
  · refine ⟨.string ⟨s.toArray⟩, .string ⟨s.toArray⟩, run_part_plain w (by kernel_rfl) rfl, run_part_plain w (by kernel_rfl) rfl, ?_⟩
    rw [run_equalIn_string w (d + 1) 9 _ _ Tryz.underlying9]
    simp
def cmpNe (t : TypeId) (x y : Operand) (u v : Value) : Sem Next := do pure (.value (← (do eqGuard .neq t x y u v; binOp .neq t u v)))
theorem execOp_neq93 (a : Act) (dst : Option Tmp) (x y : Operand) (ty : TypeId) (pos : String) (after : Array Edge) (guard : Option (Nat × Bool)) :
    execOp a.eval { dst, op := .binOp .neq 93 x y 93, type := ty, pos, after, guard } = cmpNe 93 x y (a.eval x) (a.eval y) := rfl
theorem neq93 (w : World) (x y : Operand) (b : Bool) (s : List UInt8) : (cmpNe 93 x y (.agg (slotE b s).toArray) (.agg (slotE b s).toArray)).run Tryz.prog w = .ok (.value (.bool false)) w := by
  have h1 : (binOp .neq 93 (.agg (slotE b s).toArray) (.agg (slotE b s).toArray)).run Tryz.prog w = .ok (.bool false) w := by rw [run_neq_struct, eq93 w 9997]; rfl
  have ht : Tryz.prog.eqGuardType Tryz.prog.depth 93 = false := by kernel_rfl
  have hg : (eqGuard .neq 93 x y (.agg (slotE b s).toArray) (.agg (slotE b s).toArray)).run Tryz.prog w = .ok () w := by
    unfold eqGuard
    simp [Sem.run_bind, run_program, ht]
  unfold cmpNe
  simp only [Sem.run_bind, hg, Result.andThen_ok, h1]
  rfl
def SRq (W0 : World) (b2 b3 : Nat) (C2 C3 : List Value) (W : World) : Prop := blk W b2 = some C2 ∧ blk W b3 = some C3 ∧ W0.Extends W
def srI (W0 : World) (b2 b3 : Nat) (C2 C3 : List Value) (n : Nat) (s : Nat) (f : Nat → Value) (W : World) : Prop := f 2 = .pointer (some ⟨b2, 0, none⟩) ∧ f 3 = .pointer (some ⟨b3, 0, none⟩) ∧ ∃ (i : Nat), i ≤ n ∧ f s = .int .i64 (i : Nat) ∧ Hid (SRq W0 b2 b3 C2 C3 W)
theorem ItemsOk.at {W : World} {B : Nat} {K : List Dsc} {L : List It} (h : ItemsOk W B K L) {i : Nat} {d : Dsc} (hd : K[i]? = some d) : ∃ it, L[i]? = some it ∧ ItemOk W B d it := by
  have hl : i < L.length := by rw [← h.1]; exact (List.getElem?_eq_some_iff.1 hd).1
  exact ⟨_, List.getElem?_eq_getElem hl, h.2 i d _ hd (List.getElem?_eq_getElem hl)⟩
attribute [local go_sem ↓] execOp_neq93
attribute [local go_sem] neq93 it_len it0 it1 it2 it_set0 it_set2 it_all it_put it_put2 it_ok rq_len rq0 rq1 rq2 rq3 rq4 rq_all rq_ok so_len so_all so_ok
end Go.Proofs.Qxb6500787aGreat
