import Derived.Test.Qxb6500787aRc
import Derived.StillTailTactics
import Derived.Deep.QuietTactic
import Derived.BigQuiet
import Derived.Deep.RegionHeld
import Derived.Deep.CutRange
import Derived.Laws.ResultCell
import Derived.Laws.Rows
import Derived.DeepKeys
import Derived.DataBytes
import Derived.Laws.StructEq
import Derived.Laws.AppendOwn
import Derived.Laws.MakeOwn
set_option linter.unusedSimpArgs false
set_option linter.unusedVariables false
namespace Go.Proofs.Qxb6500787a
open Go.RowKit Go.Blk
attribute [local go_sem ↓] execOp_load execOp_store execOp_alloc
attribute [local go_sem] Try.ld26 Try.st26 Try.ld27 Try.st27 Try.ld28 Try.st28 Try.ld3 Try.st3 Try.ld29 Try.st29 Try.ld4 Try.st4 Try.ld50 Try.st50 Try.ld68 Try.st68 Try.ld9 Try.st9 Try.ld2 Try.st2 Try.ld5 Try.st5 Try.ld12 Try.st12 Try.ld21 Try.st21 Try.ld22 Try.st22 Try.ld24 Try.st24 Try.ld32 Try.st32 Try.ld40 Try.st40 Try.ld44 Try.st44 Try.ld49 Try.st49 Try.ld58 Try.st58 Try.ld63 Try.st63 Try.ld97 Try.st97 Try.ld101 Try.st101 Try.ld116 Try.st116 Try.ld121 Try.st121 Try.ld135 Try.st135 Try.ld136 Try.st136 Try.ld138 Try.st138 Try.ld139 Try.st139 Try.ld142 Try.st142 Try.ld143 Try.st143 Try.ld146 Try.st146 Try.ld148 Try.st148 Try.ld154 Try.st154 Try.ld159 Try.st159 Try.ld173 Try.st173 Try.ld183 Try.st183 Try.ld184 Try.st184 Try.ld187 Try.st187 Try.ld192 Try.st192 Try.ld195 Try.st195 Try.ld217 Try.st217 Try.ld222 Try.st222 Try.ld241 Try.st241 Try.ld248 Try.st248 Try.ld268 Try.st268 Try.ld272 Try.st272 Try.ld129 Try.st129 Try.ld31 Try.st31 Try.ld52 Try.st52 Try.ld70 Try.st70 Try.ld74 Try.st74 Try.ld93 Try.st93 Try.al129 Try.al31 Try.al52 Try.al70 Try.al74 Try.al93
attribute [local go_sem] Request.length_enc Request.ok_enc Request.all_get Request.all_set Request.kind_get Request.kind_set Request.blob_get Request.blob_set Request.items_get Request.items_set Request.pred_get Request.pred_set Request.slots_get Request.slots_set Item.length_enc Item.ok_enc Item.all_get Item.all_set Item.del_get Item.del_set Item.pred_get Item.pred_set Item.args_get Item.args_set GOp.length_enc GOp.ok_enc GOp.all_get GOp.all_set GOp.kind_get GOp.kind_set GOp.raw_get GOp.raw_set Reader.length_enc Reader.ok_enc Reader.all_get Reader.all_set Reader.buf_get Reader.buf_set Reader.at__get Reader.at__set Slot.length_enc Slot.ok_enc Slot.all_get Slot.all_set Slot.bound_get Slot.bound_set Slot.name_get Slot.name_set
attribute [local go_sem] size_put size_ext blk_put free_put blk_alloc free_alloc blk_drew free_drew blk_ext free_ext lookOr_some putOr_some segAt_some cellAt_some storeIn_some put_put put_alloc_new length_arr ok_arr_u8 ok_arr_u32 ok_arr_u64 ok_arr_i64 ok_arr_sl cellsV_agg cellsV_int cellsV_bool cellsV_string cellsV_pointer cellsV_slice cellsV_sl ok_int ok_bool ok_string ok_pointer ok_slice ok_sl toList_arr seg_arr set_arr nth_splice nth_splice0 seg_splice seg_splice0 splice_splice splice_splice0 length_splice_if
attribute [local go_sem ↓] execOp_box
attribute [local go_sem] box_run nth_arr_u8 put_arr_u8 blk_drewN free_drewN put_drewN blk_raw free_raw
def encS (s : List UInt8) : List Value := [.string ⟨s.toArray⟩]
theorem encS_len (s : List UInt8) : (encS s).length = 1 := rfl
theorem encS_one (s : List UInt8) : (encS s).all (fun v => v.oneCell') = true := rfl
theorem bslice50 (w : World) (s : List UInt8) : (bsliceOp 50 1 #[(0, .string ⟨s.toArray⟩)]).run Try.prog w = .ok (.value (.slice (some ⟨w.heap.size, 0, none⟩) 1 1)) (w.alloc (.cells (encS s).toArray 9)) := by kernel_rfl
def itemE (d : Bool) (p : Int) (a : Option Addr) (n c : Nat) : List Value := Item.enc ⟨d, p, ⟨a, n, c⟩⟩
theorem it_len (d : Bool) (p : Int) (a : Option Addr) (n c : Nat) : (itemE d p a n c).length = 3 := rfl
theorem it0 (d : Bool) (p : Int) (a : Option Addr) (n c : Nat) : nth (itemE d p a n c) 0 = some (.bool d) := rfl
theorem it1 (d : Bool) (p : Int) (a : Option Addr) (n c : Nat) : nth (itemE d p a n c) 1 = some (.int .i64 p) := rfl
theorem it2 (d : Bool) (p : Int) (a : Option Addr) (n c : Nat) : nth (itemE d p a n c) 2 = some (.slice a n c) := rfl
theorem it_set0 (d e : Bool) (p : Int) (a : Option Addr) (n c : Nat) : splice (itemE d p a n c) 0 [.bool e] = itemE e p a n c := rfl
theorem it_set2 (d : Bool) (p : Int) (a : Option Addr) (n c : Nat) (a' : Option Addr) (n' c' : Nat) : splice (itemE d p a n c) 2 [.slice a' n' c'] = itemE d p a' n' c' := rfl
theorem it_all (d : Bool) (p : Int) (a : Option Addr) (n c : Nat) : seg (itemE d p a n c) 0 3 = itemE d p a n c := rfl
theorem it_put (x : Item) (d : Bool) (p : Int) (a : Option Addr) (n c : Nat) : splice x.enc 0 (itemE d p a n c) = itemE d p a n c := Item.all_set x ⟨d, p, ⟨a, n, c⟩⟩
theorem it_put2 (d' : Bool) (p' : Int) (a' : Option Addr) (n' c' : Nat) (d : Bool) (p : Int) (a : Option Addr) (n c : Nat) : splice (itemE d' p' a' n' c') 0 (itemE d p a n c) = itemE d p a n c := rfl
theorem it_ok (d : Bool) (p : Int) (a : Option Addr) (n c : Nat) : okCells 3 (itemE d p a n c) = true := rfl
theorem build52z (w : World) : (buildOp 52 #[]).run Try.prog w = .ok (.value (.agg (itemE false 0 none 0 0).toArray)) w := by kernel_rfl
theorem build52p (w : World) (p : Int) : (buildOp 52 #[(1, .int .i64 p)]).run Try.prog w = .ok (.value (.agg (itemE false p none 0 0).toArray)) w := by kernel_rfl
theorem Side.put_new {D : Nat → Prop} {w w' : World} (h : Side D w w') {b : Nat} (hb : w.heap.size ≤ b) (C : List Value) : Side D w (Blk.put w' b C) := by
  refine ⟨h.os, h.tape, h.output, by rw [size_put]; exact h.size, fun k hk hd => ?_⟩
  rw [heap_put, if_neg (by omega)]
  exact h.block k hk hd
theorem Side.grown {D : Nat → Prop} {w w' w'' : World} {r : Option Nat} (h : Side D w w') (hg : w'.grownBy w'' r) (hr : ∀ k, r = some k → w.heap.size ≤ k) : Side D w w'' :=
  ⟨hg.os.trans h.os, hg.tape.trans h.tape, hg.output.trans h.output, Nat.le_trans h.size hg.size, fun k hk hd => (hg.block k (Nat.lt_of_lt_of_le hk h.size) (fun e => by have := hr k e.symm; omega)).trans (h.block k hk hd)⟩
theorem Side.ext {D : Nat → Prop} {w w' w'' : World} (h : Side D w w') (he : w'.Extends w'') : Side D w w'' := h.trans (Side.of_extends he)
theorem row_base {B B' : Nat} {W : World} {e : TypeId} {size : Nat} {v : Value} {n : Nat} {xs : List Value} (h : W.ownsRow B e size v n xs) (hb : B' ≤ B) : W.ownsRow B' e size v n xs := by
  obtain ⟨h1, h2 | ⟨g, cap, cur, e1, e2, e3⟩⟩ := h
  · exact ⟨h1, .inl h2⟩
  · exact ⟨h1, .inr ⟨g, cap, cur, e1, by omega, e3⟩⟩
def goN : Nat → List (List UInt8) → List UInt8 → Int × List (List UInt8) × List UInt8
  | 0, acc, ys => (0, acc, ys)
  | m + 1, acc, ys => if (nameF ys).1 = 0 then goN m (acc ++ [(nameF ys).2.1]) (nameF ys).2.2 else ((nameF ys).1, [], [])
theorem goN_ok {m : Nat} {acc : List (List UInt8)} {ys : List UInt8} (h : (nameF ys).1 = 0) : goN (m + 1) acc ys = goN m (acc ++ [(nameF ys).2.1]) (nameF ys).2.2 := by show (if _ then _ else _) = _; rw [if_pos h]
theorem goN_bad {m : Nat} {acc : List (List UInt8)} {ys : List UInt8} (h : (nameF ys).1 ≠ 0) : goN (m + 1) acc ys = ((nameF ys).1, [], []) := by show (if _ then _ else _) = _; rw [if_neg h]
/-- A fact: code, predicate, names, rest. -/
def factF : List UInt8 → Int × Int × List (List UInt8) × List UInt8
  | p :: k :: r => if 4 < k.toNat then (8, 0, [], []) else if (goN k.toNat [] r).1 = 0 then (0, ((p.toNat : Nat) : Int), (goN k.toNat [] r).2.1, (goN k.toNat [] r).2.2) else ((goN k.toNat [] r).1, 0, [], [])
  | _ => (5, 0, [], [])
theorem factF_cons (p k : UInt8) (r : List UInt8) : factF (p :: k :: r) = if 4 < k.toNat then (8, 0, [], []) else if (goN k.toNat [] r).1 = 0 then (0, ((p.toNat : Nat) : Int), (goN k.toNat [] r).2.1, (goN k.toNat [] r).2.2) else ((goN k.toNat [] r).1, 0, [], []) := rfl
def FactPost (w0 : World) (br : Nat) (a : Option Addr) (n c : Nat) (xs : List UInt8) (W : World) (q : Int × Int × List (List UInt8) × List UInt8) (e : Ending) (W' : World) : Prop :=
  ∃ pr pa pn pc, e = .returned (.tuple #[.agg (itemE false pr pa pn pc).toArray, .int .i64 q.1]) ∧ (q.1 = 0 → pr = q.2.1 ∧ W'.ownsRow W.heap.size 9 1 (.slice pa pn pc) q.2.2.1.length (q.2.2.1.flatMap encS)) ∧ RPost w0 br a n c xs W q.1 q.2.2.2 W'
def FQ (w0 W0 : World) (br b2 b7 B : Nat) (a : Option Addr) (n c : Nat) (xs : List UInt8) (pr : Int) (k : Nat) (tot : Int × List (List UInt8) × List UInt8) (a' : Option Addr) (n' c' i : Nat) (K : List (List UInt8)) (p : Nat) (W : World) : Prop :=
  blk W b2 = some (itemE false 0 none 0 0) ∧ free W b2 = true ∧ blk W b7 = some (itemE false pr a' n' c') ∧ free W b7 = true ∧ n' = K.length ∧ W.ownsRow B 9 1 (.slice a' n' c') K.length (K.flatMap encS) ∧ n' ≤ i ∧ Rdr w0 br a n c p W ∧ Side (isR br) W0 W ∧ B ≤ W.heap.size ∧ goN (k - i) K (xs.drop p) = tot
def faI (w0 W0 : World) (br b2 b7 B : Nat) (a : Option Addr) (n c : Nat) (xs : List UInt8) (pr : Int) (k : Nat) (tot : Int × List (List UInt8) × List UInt8) (f : Nat → Value) (W : World) : Prop :=
  f 0 = .pointer (some ⟨br, 0, none⟩) ∧ f 2 = .pointer (some ⟨b2, 0, none⟩) ∧ f 6 = .int .i64 (k : Nat) ∧ f 7 = .pointer (some ⟨b7, 0, none⟩) ∧ ∃ (i : Nat) (a' : Option Addr) (n' c' : Nat) (K : List (List UInt8)) (p : Nat), i ≤ k ∧ f 8 = .int .i64 (i : Nat) ∧ Hid (FQ w0 W0 br b2 b7 B a n c xs pr k tot a' n' c' i K p W)
end Go.Proofs.Qxb6500787a
