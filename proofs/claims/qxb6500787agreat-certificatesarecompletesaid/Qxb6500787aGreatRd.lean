
import Derived.Test.Qxb6500787aGreatRc
import Derived.StillTailTactics
import Derived.Deep.QuietTactic
import Derived.BigQuiet
import Derived.Deep.RegionHeld
import Derived.Deep.CutRange
import Derived.Laws.ResultCell
import Derived.Laws.Rows
import Derived.DeepKeys
import Derived.DataBytes
import Derived.Laws.StructEq
import Derived.Laws.AppendOwn
import Derived.Laws.MakeOwn
set_option linter.unusedSimpArgs false
set_option linter.unusedVariables false
namespace Go.Proofs.Qxb6500787aGreat
open Go.RowKit Go.Blk
attribute [local go_sem ↓] execOp_load execOp_store execOp_alloc
attribute [local go_sem] Tryz.ld26 Tryz.st26 Tryz.ld27 Tryz.st27 Tryz.ld28 Tryz.st28 Tryz.ld3 Tryz.st3 Tryz.ld29 Tryz.st29 Tryz.ld4 Tryz.st4 Tryz.ld50 Tryz.st50 Tryz.ld68 Tryz.st68 Tryz.ld9 Tryz.st9 Tryz.ld2 Tryz.st2 Tryz.ld5 Tryz.st5 Tryz.ld12 Tryz.st12 Tryz.ld21 Tryz.st21 Tryz.ld22 Tryz.st22 Tryz.ld24 Tryz.st24 Tryz.ld32 Tryz.st32 Tryz.ld40 Tryz.st40 Tryz.ld44 Tryz.st44 Tryz.ld49 Tryz.st49 Tryz.ld58 Tryz.st58 Tryz.ld97 Tryz.st97 Tryz.ld101 Tryz.st101 Tryz.ld116 Tryz.st116 Tryz.ld121 Tryz.st121 Tryz.ld135 Tryz.st135 Tryz.ld136 Tryz.st136 Tryz.ld138 Tryz.st138 Tryz.ld139 Tryz.st139 Tryz.ld142 Tryz.st142 Tryz.ld143 Tryz.st143 Tryz.ld146 Tryz.st146 Tryz.ld148 Tryz.st148 Tryz.ld154 Tryz.st154 Tryz.ld159 Tryz.st159 Tryz.ld173 Tryz.st173 Tryz.ld183 Tryz.st183 Tryz.ld184 Tryz.st184 Tryz.ld187 Tryz.st187 Tryz.ld192 Tryz.st192 Tryz.ld195 Tryz.st195 Tryz.ld217 Tryz.st217 Tryz.ld222 Tryz.st222 Tryz.ld241 Tryz.st241 Tryz.ld248 Tryz.st248 Tryz.ld268 Tryz.st268 Tryz.ld272 Tryz.st272 Tryz.ld129 Tryz.st129 Tryz.ld31 Tryz.st31 Tryz.ld52 Tryz.st52 Tryz.ld70 Tryz.st70 Tryz.ld74 Tryz.st74 Tryz.ld93 Tryz.st93 Tryz.al129 Tryz.al31 Tryz.al52 Tryz.al70 Tryz.al74 Tryz.al93
attribute [local go_sem] Request.length_enc Request.ok_enc Request.all_get Request.all_set Request.kind_get Request.kind_set Request.blob_get Request.blob_set Request.items_get Request.items_set Request.pred_get Request.pred_set Request.slots_get Request.slots_set Item.length_enc Item.ok_enc Item.all_get Item.all_set Item.del_get Item.del_set Item.pred_get Item.pred_set Item.args_get Item.args_set GOp.length_enc GOp.ok_enc GOp.all_get GOp.all_set GOp.kind_get GOp.kind_set GOp.raw_get GOp.raw_set Reader.length_enc Reader.ok_enc Reader.all_get Reader.all_set Reader.buf_get Reader.buf_set Reader.at__get Reader.at__set Slot.length_enc Slot.ok_enc Slot.all_get Slot.all_set Slot.bound_get Slot.bound_set Slot.name_get Slot.name_set
attribute [local go_sem] size_put size_ext blk_put free_put blk_alloc free_alloc blk_drew free_drew blk_ext free_ext lookOr_some putOr_some segAt_some cellAt_some storeIn_some put_put put_alloc_new length_arr ok_arr_u8 ok_arr_u32 ok_arr_u64 ok_arr_i64 ok_arr_sl cellsV_agg cellsV_int cellsV_bool cellsV_string cellsV_pointer cellsV_slice cellsV_sl ok_int ok_bool ok_string ok_pointer ok_slice ok_sl toList_arr seg_arr set_arr nth_splice nth_splice0 seg_splice seg_splice0 splice_splice splice_splice0 length_splice_if
attribute [local go_sem ↓] execOp_box
attribute [local go_sem] box_run nth_arr_u8 put_arr_u8 blk_drewN free_drewN put_drewN blk_raw free_raw
def encS (s : List UInt8) : List Value := [.string ⟨s.toArray⟩]
theorem encS_len (s : List UInt8) : (encS s).length = 1 := rfl
theorem encS_one (s : List UInt8) : (encS s).all (fun v => v.oneCell') = true := rfl
theorem bslice50 (w : World) (s : List UInt8) : (bsliceOp 43 1 #[(0, .string ⟨s.toArray⟩)]).run Tryz.prog w = .ok (.value (.slice (some ⟨w.heap.size, 0, none⟩) 1 1)) (w.alloc (.cells (encS s).toArray 9)) := by kernel_rfl
def itemE (d : Bool) (p : Int) (a : Option Addr) (n c : Nat) : List Value := Item.enc ⟨d, p, ⟨a, n, c⟩⟩
theorem it_len (d : Bool) (p : Int) (a : Option Addr) (n c : Nat) : (itemE d p a n c).length = 3 := rfl
theorem it0 (d : Bool) (p : Int) (a : Option Addr) (n c : Nat) : nth (itemE d p a n c) 0 = some (.bool d) := rfl
theorem it1 (d : Bool) (p : Int) (a : Option Addr) (n c : Nat) : nth (itemE d p a n c) 1 = some (.int .i64 p) := rfl
theorem it2 (d : Bool) (p : Int) (a : Option Addr) (n c : Nat) : nth (itemE d p a n c) 2 = some (.slice a n c) := rfl
theorem it_set0 (d e : Bool) (p : Int) (a : Option Addr) (n c : Nat) : splice (itemE d p a n c) 0 [.bool e] = itemE e p a n c := rfl
theorem it_set2 (d : Bool) (p : Int) (a : Option Addr) (n c : Nat) (a' : Option Addr) (n' c' : Nat) : splice (itemE d p a n c) 2 [.slice a' n' c'] = itemE d p a' n' c' := rfl
theorem it_all (d : Bool) (p : Int) (a : Option Addr) (n c : Nat) : seg (itemE d p a n c) 0 3 = itemE d p a n c := rfl
theorem it_put (x : Item) (d : Bool) (p : Int) (a : Option Addr) (n c : Nat) : splice x.enc 0 (itemE d p a n c) = itemE d p a n c := Item.all_set x ⟨d, p, ⟨a, n, c⟩⟩
theorem it_put2 (d' : Bool) (p' : Int) (a' : Option Addr) (n' c' : Nat) (d : Bool) (p : Int) (a : Option Addr) (n c : Nat) : splice (itemE d' p' a' n' c') 0 (itemE d p a n c) = itemE d p a n c := rfl
theorem it_ok (d : Bool) (p : Int) (a : Option Addr) (n c : Nat) : okCells 3 (itemE d p a n c) = true := rfl
theorem build52z (w : World) : (buildOp 67 #[]).run Tryz.prog w = .ok (.value (.agg (itemE false 0 none 0 0).toArray)) w := by kernel_rfl
theorem build52p (w : World) (p : Int) : (buildOp 67 #[(1, .int .i64 p)]).run Tryz.prog w = .ok (.value (.agg (itemE false p none 0 0).toArray)) w := by kernel_rfl
theorem Side.put_new {D : Nat → Prop} {w w' : World} (h : Side D w w') {b : Nat} (hb : w.heap.size ≤ b) (C : List Value) : Side D w (Blk.put w' b C) := by
  refine ⟨h.os, h.tape, h.output, by rw [size_put]; exact h.size, fun k hk hd => ?_⟩
  rw [heap_put, if_neg (by omega)]
  exact h.block k hk hd
theorem Side.grown {D : Nat → Prop} {w w' w'' : World} {r : Option Nat} (h : Side D w w') (hg : w'.grownBy w'' r) (hr : ∀ k, r = some k → w.heap.size ≤ k) : Side D w w'' :=
  ⟨hg.os.trans h.os, hg.tape.trans h.tape, hg.output.trans h.output, Nat.le_trans h.size hg.size, fun k hk hd => (hg.block k (Nat.lt_of_lt_of_le hk h.size) (fun e => by have := hr k e.symm; omega)).trans (h.block k hk hd)⟩
theorem Side.ext {D : Nat → Prop} {w w' w'' : World} (h : Side D w w') (he : w'.Extends w'') : Side D w w'' := h.trans (Side.of_extends he)
theorem row_base {B B' : Nat} {W : World} {e : TypeId} {size : Nat} {v : Value} {n : Nat} {xs : List Value} (h : W.ownsRow B e size v n xs) (hb : B' ≤ B) : W.ownsRow B' e size v n xs := by
  obtain ⟨h1, h2 | ⟨g, cap, cur, e1, e2, e3⟩⟩ := h
  · exact ⟨h1, .inl h2⟩
  · exact ⟨h1, .inr ⟨g, cap, cur, e1, by omega, e3⟩⟩
def goN : Nat → List (List UInt8) → List UInt8 → Int × List (List UInt8) × List UInt8
  | 0, acc, ys => (0, acc, ys)
  | m + 1, acc, ys => if (nameF ys).1 = 0 then goN m (acc ++ [(nameF ys).2.1]) (nameF ys).2.2 else ((nameF ys).1, [], [])
theorem goN_ok {m : Nat} {acc : List (List UInt8)} {ys : List UInt8} (h : (nameF ys).1 = 0) : goN (m + 1) acc ys = goN m (acc ++ [(nameF ys).2.1]) (nameF ys).2.2 := by show (if _ then _ else _) = _; rw [if_pos h]
theorem goN_bad {m : Nat} {acc : List (List UInt8)} {ys : List UInt8} (h : (nameF ys).1 ≠ 0) : goN (m + 1) acc ys = ((nameF ys).1, [], []) := by show (if _ then _ else _) = _; rw [if_neg h]
/-- A fact: code, predicate, names, rest. -/
def factF : List UInt8 → Int × Int × List (List UInt8) × List UInt8
  | p :: k :: r => if 4 < k.toNat then (8, 0, [], []) else if (goN k.toNat [] r).1 = 0 then (0, ((p.toNat : Nat) : Int), (goN k.toNat [] r).2.1, (goN k.toNat [] r).2.2) else ((goN k.toNat [] r).1, 0, [], [])
  | _ => (5, 0, [], [])
theorem factF_cons (p k : UInt8) (r : List UInt8) : factF (p :: k :: r) = if 4 < k.toNat then (8, 0, [], []) else if (goN k.toNat [] r).1 = 0 then (0, ((p.toNat : Nat) : Int), (goN k.toNat [] r).2.1, (goN k.toNat [] r).2.2) else ((goN k.toNat [] r).1, 0, [], []) := rfl
def FactPost (w0 : World) (br : Nat) (a : Option Addr) (n c : Nat) (xs : List UInt8) (W : World) (q : Int × Int × List (List UInt8) × List UInt8) (e : Ending) (W' : World) : Prop :=
  ∃ pr pa pn pc, e = .returned (.tuple #[.agg (itemE false pr pa pn pc).toArray, .int .i64 q.1]) ∧ (q.1 = 0 → pr = q.2.1 ∧ W'.ownsRow W.heap.size 9 1 (.slice pa pn pc) q.2.2.1.length (q.2.2.1.flatMap encS)) ∧ RPost w0 br a n c xs W q.1 q.2.2.2 W'
def FQ (w0 W0 : World) (br b2 b7 B : Nat) (a : Option Addr) (n c : Nat) (xs : List UInt8) (pr : Int) (k : Nat) (tot : Int × List (List UInt8) × List UInt8) (a' : Option Addr) (n' c' i : Nat) (K : List (List UInt8)) (p : Nat) (W : World) : Prop :=
  blk W b2 = some (itemE false 0 none 0 0) ∧ free W b2 = true ∧ blk W b7 = some (itemE false pr a' n' c') ∧ free W b7 = true ∧ n' = K.length ∧ W.ownsRow B 9 1 (.slice a' n' c') K.length (K.flatMap encS) ∧ n' ≤ i ∧ Rdr w0 br a n c p W ∧ Side (isR br) W0 W ∧ B ≤ W.heap.size ∧ goN (k - i) K (xs.drop p) = tot
def faI (w0 W0 : World) (br b2 b7 B : Nat) (a : Option Addr) (n c : Nat) (xs : List UInt8) (pr : Int) (k : Nat) (tot : Int × List (List UInt8) × List UInt8) (f : Nat → Value) (W : World) : Prop :=
  f 0 = .pointer (some ⟨br, 0, none⟩) ∧ f 2 = .pointer (some ⟨b2, 0, none⟩) ∧ f 6 = .int .i64 (k : Nat) ∧ f 7 = .pointer (some ⟨b7, 0, none⟩) ∧ ∃ (i : Nat) (a' : Option Addr) (n' c' : Nat) (K : List (List UInt8)) (p : Nat), i ≤ k ∧ f 8 = .int .i64 (i : Nat) ∧ Hid (FQ w0 W0 br b2 b7 B a n c xs pr k tot a' n' c' i K p W)
end Go.Proofs.Qxb6500787aGreat
