/- WRITTEN BY A PROGRAM (tools/gentypes.py) off the dump's types: Go's structs as Lean structures, their cells, their fields' places. -/
import Derived.Test.Qxb6500787aGreatProg
import Derived.Test.Qxb6500787aGreatMem
namespace Go.Proofs.Qxb6500787aGreat
open Go.Blk
set_option linter.unusedSimpArgs false

structure Request where
  kind : Int
  blob : Sl
  items : Sl
  pred : Int
  slots : Sl
def Request.zero : Request := ⟨0, ⟨none, 0, 0⟩, ⟨none, 0, 0⟩, 0, ⟨none, 0, 0⟩⟩
def Request.enc (x : Request) : List Value :=
  [.int .i64 x.kind] ++ ([Sl.val x.blob] ++ ([Sl.val x.items] ++ ([.int .i64 x.pred] ++ ([Sl.val x.slots]))))
theorem Request.length_enc (x : Request) : x.enc.length = 5 := by simp [Request.enc, length_arr, length_arrS]
theorem Request.one_enc (x : Request) : x.enc.all (fun v => v.oneCell') = true := by simp only [Request.enc, List.all_append, List.all_cons, List.all_nil, oneC_int, oneC_bool, oneC_string, oneC_pointer, oneC_slice, Bool.and_true, Bool.true_and, implies_true, one_arr_u8, one_arr_u32, one_arr_u64, one_arr_i64, one_arr_bool, one_arr_str, one_arr_ptr, one_arr_sl, one_arrS, one_u8, one_u32, one_u64, one_i64, one_bool, one_str, one_sl, one_ptr]
theorem Request.ok_enc (x : Request) : okCells 5 x.enc = true := ok_mk x.length_enc x.one_enc
theorem Request.all_get (x : Request) : seg x.enc 0 5 = x.enc := seg_all _ _ x.length_enc
theorem Request.all_set (x y : Request) : splice x.enc 0 y.enc = y.enc := splice_all _ _ (by rw [x.length_enc, y.length_enc])
theorem Request.kind_get (x : Request) : nth x.enc 0 = some (.int .i64 x.kind) := get_of (pre := ([] : List Value)) (post := ([Sl.val x.blob] ++ [Sl.val x.items] ++ [.int .i64 x.pred] ++ [Sl.val x.slots] : List Value)) (by simp [Request.enc]) (by simp [length_arr, length_arrS])
theorem Request.kind_set (x : Request) (y : Int) : splice x.enc 0 ([.int .i64 y]) = ({ x with kind := y } : Request).enc := by
  rw [splice_of (pre := ([] : List Value)) (mid := [.int .i64 x.kind]) (post := ([Sl.val x.blob] ++ [Sl.val x.items] ++ [.int .i64 x.pred] ++ [Sl.val x.slots] : List Value)) (by simp [Request.enc]) (by simp [length_arr, length_arrS]) (by simp [length_arr, length_arrS])]
  simp [Request.enc]
theorem Request.blob_get (x : Request) : nth x.enc 1 = some (Sl.val x.blob) := get_of (pre := ([.int .i64 x.kind] : List Value)) (post := ([Sl.val x.items] ++ [.int .i64 x.pred] ++ [Sl.val x.slots] : List Value)) (by simp [Request.enc]) (by simp [length_arr, length_arrS])
theorem Request.blob_set (x : Request) (y : Sl) : splice x.enc 1 ([Sl.val y]) = ({ x with blob := y } : Request).enc := by
  rw [splice_of (pre := ([.int .i64 x.kind] : List Value)) (mid := [Sl.val x.blob]) (post := ([Sl.val x.items] ++ [.int .i64 x.pred] ++ [Sl.val x.slots] : List Value)) (by simp [Request.enc]) (by simp [length_arr, length_arrS]) (by simp [length_arr, length_arrS])]
  simp [Request.enc]
theorem Request.items_get (x : Request) : nth x.enc 2 = some (Sl.val x.items) := get_of (pre := ([.int .i64 x.kind] ++ [Sl.val x.blob] : List Value)) (post := ([.int .i64 x.pred] ++ [Sl.val x.slots] : List Value)) (by simp [Request.enc]) (by simp [length_arr, length_arrS])
theorem Request.items_set (x : Request) (y : Sl) : splice x.enc 2 ([Sl.val y]) = ({ x with items := y } : Request).enc := by
  rw [splice_of (pre := ([.int .i64 x.kind] ++ [Sl.val x.blob] : List Value)) (mid := [Sl.val x.items]) (post := ([.int .i64 x.pred] ++ [Sl.val x.slots] : List Value)) (by simp [Request.enc]) (by simp [length_arr, length_arrS]) (by simp [length_arr, length_arrS])]
  simp [Request.enc]
theorem Request.pred_get (x : Request) : nth x.enc 3 = some (.int .i64 x.pred) := get_of (pre := ([.int .i64 x.kind] ++ [Sl.val x.blob] ++ [Sl.val x.items] : List Value)) (post := ([Sl.val x.slots] : List Value)) (by simp [Request.enc]) (by simp [length_arr, length_arrS])
theorem Request.pred_set (x : Request) (y : Int) : splice x.enc 3 ([.int .i64 y]) = ({ x with pred := y } : Request).enc := by
  rw [splice_of (pre := ([.int .i64 x.kind] ++ [Sl.val x.blob] ++ [Sl.val x.items] : List Value)) (mid := [.int .i64 x.pred]) (post := ([Sl.val x.slots] : List Value)) (by simp [Request.enc]) (by simp [length_arr, length_arrS]) (by simp [length_arr, length_arrS])]
  simp [Request.enc]
theorem Request.slots_get (x : Request) : nth x.enc 4 = some (Sl.val x.slots) := get_of (pre := ([.int .i64 x.kind] ++ [Sl.val x.blob] ++ [Sl.val x.items] ++ [.int .i64 x.pred] : List Value)) (post := ([] : List Value)) (by simp [Request.enc]) (by simp [length_arr, length_arrS])
theorem Request.slots_set (x : Request) (y : Sl) : splice x.enc 4 ([Sl.val y]) = ({ x with slots := y } : Request).enc := by
  rw [splice_of (pre := ([.int .i64 x.kind] ++ [Sl.val x.blob] ++ [Sl.val x.items] ++ [.int .i64 x.pred] : List Value)) (mid := [Sl.val x.slots]) (post := ([] : List Value)) (by simp [Request.enc]) (by simp [length_arr, length_arrS]) (by simp [length_arr, length_arrS])]
  simp [Request.enc]

structure Item where
  del : Bool
  pred : Int
  args : Sl
def Item.zero : Item := ⟨false, 0, ⟨none, 0, 0⟩⟩
def Item.enc (x : Item) : List Value :=
  [.bool x.del] ++ ([.int .i64 x.pred] ++ ([Sl.val x.args]))
theorem Item.length_enc (x : Item) : x.enc.length = 3 := by simp [Item.enc, length_arr, length_arrS, Request.length_enc]
theorem Item.one_enc (x : Item) : x.enc.all (fun v => v.oneCell') = true := by simp only [Item.enc, List.all_append, List.all_cons, List.all_nil, oneC_int, oneC_bool, oneC_string, oneC_pointer, oneC_slice, Bool.and_true, Bool.true_and, implies_true, one_arr_u8, one_arr_u32, one_arr_u64, one_arr_i64, one_arr_bool, one_arr_str, one_arr_ptr, one_arr_sl, one_arrS, one_u8, one_u32, one_u64, one_i64, one_bool, one_str, one_sl, one_ptr, Request.one_enc]
theorem Item.ok_enc (x : Item) : okCells 3 x.enc = true := ok_mk x.length_enc x.one_enc
theorem Item.all_get (x : Item) : seg x.enc 0 3 = x.enc := seg_all _ _ x.length_enc
theorem Item.all_set (x y : Item) : splice x.enc 0 y.enc = y.enc := splice_all _ _ (by rw [x.length_enc, y.length_enc])
theorem Item.del_get (x : Item) : nth x.enc 0 = some (.bool x.del) := get_of (pre := ([] : List Value)) (post := ([.int .i64 x.pred] ++ [Sl.val x.args] : List Value)) (by simp [Item.enc]) (by simp [length_arr, length_arrS, Request.length_enc])
theorem Item.del_set (x : Item) (y : Bool) : splice x.enc 0 ([.bool y]) = ({ x with del := y } : Item).enc := by
  rw [splice_of (pre := ([] : List Value)) (mid := [.bool x.del]) (post := ([.int .i64 x.pred] ++ [Sl.val x.args] : List Value)) (by simp [Item.enc]) (by simp [length_arr, length_arrS, Request.length_enc]) (by simp [length_arr, length_arrS, Request.length_enc])]
  simp [Item.enc]
theorem Item.pred_get (x : Item) : nth x.enc 1 = some (.int .i64 x.pred) := get_of (pre := ([.bool x.del] : List Value)) (post := ([Sl.val x.args] : List Value)) (by simp [Item.enc]) (by simp [length_arr, length_arrS, Request.length_enc])
theorem Item.pred_set (x : Item) (y : Int) : splice x.enc 1 ([.int .i64 y]) = ({ x with pred := y } : Item).enc := by
  rw [splice_of (pre := ([.bool x.del] : List Value)) (mid := [.int .i64 x.pred]) (post := ([Sl.val x.args] : List Value)) (by simp [Item.enc]) (by simp [length_arr, length_arrS, Request.length_enc]) (by simp [length_arr, length_arrS, Request.length_enc])]
  simp [Item.enc]
theorem Item.args_get (x : Item) : nth x.enc 2 = some (Sl.val x.args) := get_of (pre := ([.bool x.del] ++ [.int .i64 x.pred] : List Value)) (post := ([] : List Value)) (by simp [Item.enc]) (by simp [length_arr, length_arrS, Request.length_enc])
theorem Item.args_set (x : Item) (y : Sl) : splice x.enc 2 ([Sl.val y]) = ({ x with args := y } : Item).enc := by
  rw [splice_of (pre := ([.bool x.del] ++ [.int .i64 x.pred] : List Value)) (mid := [Sl.val x.args]) (post := ([] : List Value)) (by simp [Item.enc]) (by simp [length_arr, length_arrS, Request.length_enc]) (by simp [length_arr, length_arrS, Request.length_enc])]
  simp [Item.enc]

structure GOp where
  kind : Int
  raw : Sl
def GOp.zero : GOp := ⟨0, ⟨none, 0, 0⟩⟩
def GOp.enc (x : GOp) : List Value :=
  [.int .i64 x.kind] ++ ([Sl.val x.raw])
theorem GOp.length_enc (x : GOp) : x.enc.length = 2 := by simp [GOp.enc, length_arr, length_arrS, Request.length_enc, Item.length_enc]
theorem GOp.one_enc (x : GOp) : x.enc.all (fun v => v.oneCell') = true := by simp only [GOp.enc, List.all_append, List.all_cons, List.all_nil, oneC_int, oneC_bool, oneC_string, oneC_pointer, oneC_slice, Bool.and_true, Bool.true_and, implies_true, one_arr_u8, one_arr_u32, one_arr_u64, one_arr_i64, one_arr_bool, one_arr_str, one_arr_ptr, one_arr_sl, one_arrS, one_u8, one_u32, one_u64, one_i64, one_bool, one_str, one_sl, one_ptr, Request.one_enc, Item.one_enc]
theorem GOp.ok_enc (x : GOp) : okCells 2 x.enc = true := ok_mk x.length_enc x.one_enc
theorem GOp.all_get (x : GOp) : seg x.enc 0 2 = x.enc := seg_all _ _ x.length_enc
theorem GOp.all_set (x y : GOp) : splice x.enc 0 y.enc = y.enc := splice_all _ _ (by rw [x.length_enc, y.length_enc])
theorem GOp.kind_get (x : GOp) : nth x.enc 0 = some (.int .i64 x.kind) := get_of (pre := ([] : List Value)) (post := ([Sl.val x.raw] : List Value)) (by simp [GOp.enc]) (by simp [length_arr, length_arrS, Request.length_enc, Item.length_enc])
theorem GOp.kind_set (x : GOp) (y : Int) : splice x.enc 0 ([.int .i64 y]) = ({ x with kind := y } : GOp).enc := by
  rw [splice_of (pre := ([] : List Value)) (mid := [.int .i64 x.kind]) (post := ([Sl.val x.raw] : List Value)) (by simp [GOp.enc]) (by simp [length_arr, length_arrS, Request.length_enc, Item.length_enc]) (by simp [length_arr, length_arrS, Request.length_enc, Item.length_enc])]
  simp [GOp.enc]
theorem GOp.raw_get (x : GOp) : nth x.enc 1 = some (Sl.val x.raw) := get_of (pre := ([.int .i64 x.kind] : List Value)) (post := ([] : List Value)) (by simp [GOp.enc]) (by simp [length_arr, length_arrS, Request.length_enc, Item.length_enc])
theorem GOp.raw_set (x : GOp) (y : Sl) : splice x.enc 1 ([Sl.val y]) = ({ x with raw := y } : GOp).enc := by
  rw [splice_of (pre := ([.int .i64 x.kind] : List Value)) (mid := [Sl.val x.raw]) (post := ([] : List Value)) (by simp [GOp.enc]) (by simp [length_arr, length_arrS, Request.length_enc, Item.length_enc]) (by simp [length_arr, length_arrS, Request.length_enc, Item.length_enc])]
  simp [GOp.enc]

structure Reader where
  buf : Sl
  at_ : Int
def Reader.zero : Reader := ⟨⟨none, 0, 0⟩, 0⟩
def Reader.enc (x : Reader) : List Value :=
  [Sl.val x.buf] ++ ([.int .i64 x.at_])
theorem Reader.length_enc (x : Reader) : x.enc.length = 2 := by simp [Reader.enc, length_arr, length_arrS, Request.length_enc, Item.length_enc, GOp.length_enc]
theorem Reader.one_enc (x : Reader) : x.enc.all (fun v => v.oneCell') = true := by simp only [Reader.enc, List.all_append, List.all_cons, List.all_nil, oneC_int, oneC_bool, oneC_string, oneC_pointer, oneC_slice, Bool.and_true, Bool.true_and, implies_true, one_arr_u8, one_arr_u32, one_arr_u64, one_arr_i64, one_arr_bool, one_arr_str, one_arr_ptr, one_arr_sl, one_arrS, one_u8, one_u32, one_u64, one_i64, one_bool, one_str, one_sl, one_ptr, Request.one_enc, Item.one_enc, GOp.one_enc]
theorem Reader.ok_enc (x : Reader) : okCells 2 x.enc = true := ok_mk x.length_enc x.one_enc
theorem Reader.all_get (x : Reader) : seg x.enc 0 2 = x.enc := seg_all _ _ x.length_enc
theorem Reader.all_set (x y : Reader) : splice x.enc 0 y.enc = y.enc := splice_all _ _ (by rw [x.length_enc, y.length_enc])
theorem Reader.buf_get (x : Reader) : nth x.enc 0 = some (Sl.val x.buf) := get_of (pre := ([] : List Value)) (post := ([.int .i64 x.at_] : List Value)) (by simp [Reader.enc]) (by simp [length_arr, length_arrS, Request.length_enc, Item.length_enc, GOp.length_enc])
theorem Reader.buf_set (x : Reader) (y : Sl) : splice x.enc 0 ([Sl.val y]) = ({ x with buf := y } : Reader).enc := by
  rw [splice_of (pre := ([] : List Value)) (mid := [Sl.val x.buf]) (post := ([.int .i64 x.at_] : List Value)) (by simp [Reader.enc]) (by simp [length_arr, length_arrS, Request.length_enc, Item.length_enc, GOp.length_enc]) (by simp [length_arr, length_arrS, Request.length_enc, Item.length_enc, GOp.length_enc])]
  simp [Reader.enc]
theorem Reader.at__get (x : Reader) : nth x.enc 1 = some (.int .i64 x.at_) := get_of (pre := ([Sl.val x.buf] : List Value)) (post := ([] : List Value)) (by simp [Reader.enc]) (by simp [length_arr, length_arrS, Request.length_enc, Item.length_enc, GOp.length_enc])
theorem Reader.at__set (x : Reader) (y : Int) : splice x.enc 1 ([.int .i64 y]) = ({ x with at_ := y } : Reader).enc := by
  rw [splice_of (pre := ([Sl.val x.buf] : List Value)) (mid := [.int .i64 x.at_]) (post := ([] : List Value)) (by simp [Reader.enc]) (by simp [length_arr, length_arrS, Request.length_enc, Item.length_enc, GOp.length_enc]) (by simp [length_arr, length_arrS, Request.length_enc, Item.length_enc, GOp.length_enc])]
  simp [Reader.enc]

structure Slot where
  bound : Bool
  name : ByteArray
def Slot.zero : Slot := ⟨false, ByteArray.empty⟩
def Slot.enc (x : Slot) : List Value :=
  [.bool x.bound] ++ ([.string x.name])
theorem Slot.length_enc (x : Slot) : x.enc.length = 2 := by simp [Slot.enc, length_arr, length_arrS, Request.length_enc, Item.length_enc, GOp.length_enc, Reader.length_enc]
theorem Slot.one_enc (x : Slot) : x.enc.all (fun v => v.oneCell') = true := by simp only [Slot.enc, List.all_append, List.all_cons, List.all_nil, oneC_int, oneC_bool, oneC_string, oneC_pointer, oneC_slice, Bool.and_true, Bool.true_and, implies_true, one_arr_u8, one_arr_u32, one_arr_u64, one_arr_i64, one_arr_bool, one_arr_str, one_arr_ptr, one_arr_sl, one_arrS, one_u8, one_u32, one_u64, one_i64, one_bool, one_str, one_sl, one_ptr, Request.one_enc, Item.one_enc, GOp.one_enc, Reader.one_enc]
theorem Slot.ok_enc (x : Slot) : okCells 2 x.enc = true := ok_mk x.length_enc x.one_enc
theorem Slot.all_get (x : Slot) : seg x.enc 0 2 = x.enc := seg_all _ _ x.length_enc
theorem Slot.all_set (x y : Slot) : splice x.enc 0 y.enc = y.enc := splice_all _ _ (by rw [x.length_enc, y.length_enc])
theorem Slot.bound_get (x : Slot) : nth x.enc 0 = some (.bool x.bound) := get_of (pre := ([] : List Value)) (post := ([.string x.name] : List Value)) (by simp [Slot.enc]) (by simp [length_arr, length_arrS, Request.length_enc, Item.length_enc, GOp.length_enc, Reader.length_enc])
theorem Slot.bound_set (x : Slot) (y : Bool) : splice x.enc 0 ([.bool y]) = ({ x with bound := y } : Slot).enc := by
  rw [splice_of (pre := ([] : List Value)) (mid := [.bool x.bound]) (post := ([.string x.name] : List Value)) (by simp [Slot.enc]) (by simp [length_arr, length_arrS, Request.length_enc, Item.length_enc, GOp.length_enc, Reader.length_enc]) (by simp [length_arr, length_arrS, Request.length_enc, Item.length_enc, GOp.length_enc, Reader.length_enc])]
  simp [Slot.enc]
theorem Slot.name_get (x : Slot) : nth x.enc 1 = some (.string x.name) := get_of (pre := ([.bool x.bound] : List Value)) (post := ([] : List Value)) (by simp [Slot.enc]) (by simp [length_arr, length_arrS, Request.length_enc, Item.length_enc, GOp.length_enc, Reader.length_enc])
theorem Slot.name_set (x : Slot) (y : ByteArray) : splice x.enc 1 ([.string y]) = ({ x with name := y } : Slot).enc := by
  rw [splice_of (pre := ([.bool x.bound] : List Value)) (mid := [.string x.name]) (post := ([] : List Value)) (by simp [Slot.enc]) (by simp [length_arr, length_arrS, Request.length_enc, Item.length_enc, GOp.length_enc, Reader.length_enc]) (by simp [length_arr, length_arrS, Request.length_enc, Item.length_enc, GOp.length_enc, Reader.length_enc])]
  simp [Slot.enc]

/-! ### the program's own loads, stores, new variables -/
theorem Tryz.ld26 (w : World) (b o : Nat) : (loadOp 33 (.pointer (some ⟨b, o, none⟩))).run Tryz.prog w = lookOr (cellAt (blk w b) o) w (rawLoad Tryz.prog 33 ⟨b, o, none⟩ w) := load_one Tryz.underlying33 rfl w b o
theorem Tryz.st26 (w : World) (b o : Nat) (v : Value) : (storeOp 33 (.pointer (some ⟨b, o, none⟩)) v).run Tryz.prog w = putOr (storeIn w (blk w b) b o 1 v) (rawStore Tryz.prog 33 ⟨b, o, none⟩ v w) := store_any (by kernel_rfl) w b o v
theorem Tryz.ld27 (w : World) (b o : Nat) : (loadOp 31 (.pointer (some ⟨b, o, none⟩))).run Tryz.prog w = lookOr (cellAt (blk w b) o) w (rawLoad Tryz.prog 31 ⟨b, o, none⟩ w) := load_one Tryz.underlying31 rfl w b o
theorem Tryz.st27 (w : World) (b o : Nat) (v : Value) : (storeOp 31 (.pointer (some ⟨b, o, none⟩)) v).run Tryz.prog w = putOr (storeIn w (blk w b) b o 1 v) (rawStore Tryz.prog 31 ⟨b, o, none⟩ v w) := store_any (by kernel_rfl) w b o v
theorem Tryz.ld28 (w : World) (b o : Nat) : (loadOp 34 (.pointer (some ⟨b, o, none⟩))).run Tryz.prog w = lookOr (cellAt (blk w b) o) w (rawLoad Tryz.prog 34 ⟨b, o, none⟩ w) := load_one Tryz.underlying34 rfl w b o
theorem Tryz.st28 (w : World) (b o : Nat) (v : Value) : (storeOp 34 (.pointer (some ⟨b, o, none⟩)) v).run Tryz.prog w = putOr (storeIn w (blk w b) b o 1 v) (rawStore Tryz.prog 34 ⟨b, o, none⟩ v w) := store_any (by kernel_rfl) w b o v
theorem Tryz.ld3 (w : World) (b o : Nat) : (loadOp 3 (.pointer (some ⟨b, o, none⟩))).run Tryz.prog w = lookOr (cellAt (blk w b) o) w (rawLoad Tryz.prog 3 ⟨b, o, none⟩ w) := load_one Tryz.underlying3 rfl w b o
theorem Tryz.st3 (w : World) (b o : Nat) (v : Value) : (storeOp 3 (.pointer (some ⟨b, o, none⟩)) v).run Tryz.prog w = putOr (storeIn w (blk w b) b o 1 v) (rawStore Tryz.prog 3 ⟨b, o, none⟩ v w) := store_any (by kernel_rfl) w b o v
theorem Tryz.ld29 (w : World) (b o : Nat) : (loadOp 35 (.pointer (some ⟨b, o, none⟩))).run Tryz.prog w = lookOr (cellAt (blk w b) o) w (rawLoad Tryz.prog 35 ⟨b, o, none⟩ w) := load_one Tryz.underlying35 rfl w b o
theorem Tryz.st29 (w : World) (b o : Nat) (v : Value) : (storeOp 35 (.pointer (some ⟨b, o, none⟩)) v).run Tryz.prog w = putOr (storeIn w (blk w b) b o 1 v) (rawStore Tryz.prog 35 ⟨b, o, none⟩ v w) := store_any (by kernel_rfl) w b o v
theorem Tryz.ld4 (w : World) (b o : Nat) : (loadOp 4 (.pointer (some ⟨b, o, none⟩))).run Tryz.prog w = lookOr (cellAt (blk w b) o) w (rawLoad Tryz.prog 4 ⟨b, o, none⟩ w) := load_one Tryz.underlying4 rfl w b o
theorem Tryz.st4 (w : World) (b o : Nat) (v : Value) : (storeOp 4 (.pointer (some ⟨b, o, none⟩)) v).run Tryz.prog w = putOr (storeIn w (blk w b) b o 1 v) (rawStore Tryz.prog 4 ⟨b, o, none⟩ v w) := store_any (by kernel_rfl) w b o v
theorem Tryz.ld50 (w : World) (b o : Nat) : (loadOp 43 (.pointer (some ⟨b, o, none⟩))).run Tryz.prog w = lookOr (cellAt (blk w b) o) w (rawLoad Tryz.prog 43 ⟨b, o, none⟩ w) := load_one Tryz.underlying43 rfl w b o
theorem Tryz.st50 (w : World) (b o : Nat) (v : Value) : (storeOp 43 (.pointer (some ⟨b, o, none⟩)) v).run Tryz.prog w = putOr (storeIn w (blk w b) b o 1 v) (rawStore Tryz.prog 43 ⟨b, o, none⟩ v w) := store_any (by kernel_rfl) w b o v
theorem Tryz.ld68 (w : World) (b o : Nat) : (loadOp 97 (.pointer (some ⟨b, o, none⟩))).run Tryz.prog w = lookOr (cellAt (blk w b) o) w (rawLoad Tryz.prog 97 ⟨b, o, none⟩ w) := load_one Tryz.underlying97 rfl w b o
theorem Tryz.st68 (w : World) (b o : Nat) (v : Value) : (storeOp 97 (.pointer (some ⟨b, o, none⟩)) v).run Tryz.prog w = putOr (storeIn w (blk w b) b o 1 v) (rawStore Tryz.prog 97 ⟨b, o, none⟩ v w) := store_any (by kernel_rfl) w b o v
theorem Tryz.ld9 (w : World) (b o : Nat) : (loadOp 9 (.pointer (some ⟨b, o, none⟩))).run Tryz.prog w = lookOr (cellAt (blk w b) o) w (rawLoad Tryz.prog 9 ⟨b, o, none⟩ w) := load_one Tryz.underlying9 rfl w b o
theorem Tryz.st9 (w : World) (b o : Nat) (v : Value) : (storeOp 9 (.pointer (some ⟨b, o, none⟩)) v).run Tryz.prog w = putOr (storeIn w (blk w b) b o 1 v) (rawStore Tryz.prog 9 ⟨b, o, none⟩ v w) := store_any (by kernel_rfl) w b o v
theorem Tryz.ld2 (w : World) (b o : Nat) : (loadOp 2 (.pointer (some ⟨b, o, none⟩))).run Tryz.prog w = lookOr (cellAt (blk w b) o) w (rawLoad Tryz.prog 2 ⟨b, o, none⟩ w) := load_one Tryz.underlying2 rfl w b o
theorem Tryz.st2 (w : World) (b o : Nat) (v : Value) : (storeOp 2 (.pointer (some ⟨b, o, none⟩)) v).run Tryz.prog w = putOr (storeIn w (blk w b) b o 1 v) (rawStore Tryz.prog 2 ⟨b, o, none⟩ v w) := store_any (by kernel_rfl) w b o v
theorem Tryz.ld5 (w : World) (b o : Nat) : (loadOp 5 (.pointer (some ⟨b, o, none⟩))).run Tryz.prog w = lookOr (cellAt (blk w b) o) w (rawLoad Tryz.prog 5 ⟨b, o, none⟩ w) := load_one Tryz.underlying5 rfl w b o
theorem Tryz.st5 (w : World) (b o : Nat) (v : Value) : (storeOp 5 (.pointer (some ⟨b, o, none⟩)) v).run Tryz.prog w = putOr (storeIn w (blk w b) b o 1 v) (rawStore Tryz.prog 5 ⟨b, o, none⟩ v w) := store_any (by kernel_rfl) w b o v
theorem Tryz.ld12 (w : World) (b o : Nat) : (loadOp 12 (.pointer (some ⟨b, o, none⟩))).run Tryz.prog w = lookOr (cellAt (blk w b) o) w (rawLoad Tryz.prog 12 ⟨b, o, none⟩ w) := load_one Tryz.underlying12 rfl w b o
theorem Tryz.st12 (w : World) (b o : Nat) (v : Value) : (storeOp 12 (.pointer (some ⟨b, o, none⟩)) v).run Tryz.prog w = putOr (storeIn w (blk w b) b o 1 v) (rawStore Tryz.prog 12 ⟨b, o, none⟩ v w) := store_any (by kernel_rfl) w b o v
theorem Tryz.ld21 (w : World) (b o : Nat) : (loadOp 21 (.pointer (some ⟨b, o, none⟩))).run Tryz.prog w = lookOr (cellAt (blk w b) o) w (rawLoad Tryz.prog 21 ⟨b, o, none⟩ w) := load_one Tryz.underlying21 rfl w b o
theorem Tryz.st21 (w : World) (b o : Nat) (v : Value) : (storeOp 21 (.pointer (some ⟨b, o, none⟩)) v).run Tryz.prog w = putOr (storeIn w (blk w b) b o 1 v) (rawStore Tryz.prog 21 ⟨b, o, none⟩ v w) := store_any (by kernel_rfl) w b o v
theorem Tryz.ld22 (w : World) (b o : Nat) : (loadOp 22 (.pointer (some ⟨b, o, none⟩))).run Tryz.prog w = lookOr (cellAt (blk w b) o) w (rawLoad Tryz.prog 22 ⟨b, o, none⟩ w) := load_one Tryz.underlying22 rfl w b o
theorem Tryz.st22 (w : World) (b o : Nat) (v : Value) : (storeOp 22 (.pointer (some ⟨b, o, none⟩)) v).run Tryz.prog w = putOr (storeIn w (blk w b) b o 1 v) (rawStore Tryz.prog 22 ⟨b, o, none⟩ v w) := store_any (by kernel_rfl) w b o v
theorem Tryz.ld24 (w : World) (b o : Nat) : (loadOp 28 (.pointer (some ⟨b, o, none⟩))).run Tryz.prog w = lookOr (cellAt (blk w b) o) w (rawLoad Tryz.prog 28 ⟨b, o, none⟩ w) := load_one Tryz.underlying28 rfl w b o
theorem Tryz.st24 (w : World) (b o : Nat) (v : Value) : (storeOp 28 (.pointer (some ⟨b, o, none⟩)) v).run Tryz.prog w = putOr (storeIn w (blk w b) b o 1 v) (rawStore Tryz.prog 28 ⟨b, o, none⟩ v w) := store_any (by kernel_rfl) w b o v
theorem Tryz.ld32 (w : World) (b o : Nat) : (loadOp 38 (.pointer (some ⟨b, o, none⟩))).run Tryz.prog w = lookOr (cellAt (blk w b) o) w (rawLoad Tryz.prog 38 ⟨b, o, none⟩ w) := load_one Tryz.underlying38 rfl w b o
theorem Tryz.st32 (w : World) (b o : Nat) (v : Value) : (storeOp 38 (.pointer (some ⟨b, o, none⟩)) v).run Tryz.prog w = putOr (storeIn w (blk w b) b o 1 v) (rawStore Tryz.prog 38 ⟨b, o, none⟩ v w) := store_any (by kernel_rfl) w b o v
theorem Tryz.ld40 (w : World) (b o : Nat) : (loadOp 24 (.pointer (some ⟨b, o, none⟩))).run Tryz.prog w = lookOr (cellAt (blk w b) o) w (rawLoad Tryz.prog 24 ⟨b, o, none⟩ w) := load_one Tryz.underlying24 rfl w b o
theorem Tryz.st40 (w : World) (b o : Nat) (v : Value) : (storeOp 24 (.pointer (some ⟨b, o, none⟩)) v).run Tryz.prog w = putOr (storeIn w (blk w b) b o 1 v) (rawStore Tryz.prog 24 ⟨b, o, none⟩ v w) := store_any (by kernel_rfl) w b o v
theorem Tryz.ld44 (w : World) (b o : Nat) : (loadOp 101 (.pointer (some ⟨b, o, none⟩))).run Tryz.prog w = lookOr (cellAt (blk w b) o) w (rawLoad Tryz.prog 101 ⟨b, o, none⟩ w) := load_one Tryz.underlying101 rfl w b o
theorem Tryz.st44 (w : World) (b o : Nat) (v : Value) : (storeOp 101 (.pointer (some ⟨b, o, none⟩)) v).run Tryz.prog w = putOr (storeIn w (blk w b) b o 1 v) (rawStore Tryz.prog 101 ⟨b, o, none⟩ v w) := store_any (by kernel_rfl) w b o v
theorem Tryz.ld49 (w : World) (b o : Nat) : (loadOp 61 (.pointer (some ⟨b, o, none⟩))).run Tryz.prog w = lookOr (cellAt (blk w b) o) w (rawLoad Tryz.prog 61 ⟨b, o, none⟩ w) := load_one Tryz.underlying61 rfl w b o
theorem Tryz.st49 (w : World) (b o : Nat) (v : Value) : (storeOp 61 (.pointer (some ⟨b, o, none⟩)) v).run Tryz.prog w = putOr (storeIn w (blk w b) b o 1 v) (rawStore Tryz.prog 61 ⟨b, o, none⟩ v w) := store_any (by kernel_rfl) w b o v
theorem Tryz.ld58 (w : World) (b o : Nat) : (loadOp 328 (.pointer (some ⟨b, o, none⟩))).run Tryz.prog w = lookOr (cellAt (blk w b) o) w (rawLoad Tryz.prog 328 ⟨b, o, none⟩ w) := load_one Tryz.underlying328 rfl w b o
theorem Tryz.st58 (w : World) (b o : Nat) (v : Value) : (storeOp 328 (.pointer (some ⟨b, o, none⟩)) v).run Tryz.prog w = putOr (storeIn w (blk w b) b o 1 v) (rawStore Tryz.prog 328 ⟨b, o, none⟩ v w) := store_any (by kernel_rfl) w b o v
theorem Tryz.ld97 (w : World) (b o : Nat) : (loadOp 207 (.pointer (some ⟨b, o, none⟩))).run Tryz.prog w = lookOr (cellAt (blk w b) o) w (rawLoad Tryz.prog 207 ⟨b, o, none⟩ w) := load_one Tryz.underlying207 rfl w b o
theorem Tryz.st97 (w : World) (b o : Nat) (v : Value) : (storeOp 207 (.pointer (some ⟨b, o, none⟩)) v).run Tryz.prog w = putOr (storeIn w (blk w b) b o 1 v) (rawStore Tryz.prog 207 ⟨b, o, none⟩ v w) := store_any (by kernel_rfl) w b o v
theorem Tryz.ld101 (w : World) (b o : Nat) : (loadOp 100 (.pointer (some ⟨b, o, none⟩))).run Tryz.prog w = lookOr (cellAt (blk w b) o) w (rawLoad Tryz.prog 100 ⟨b, o, none⟩ w) := load_one Tryz.underlying100 rfl w b o
theorem Tryz.st101 (w : World) (b o : Nat) (v : Value) : (storeOp 100 (.pointer (some ⟨b, o, none⟩)) v).run Tryz.prog w = putOr (storeIn w (blk w b) b o 1 v) (rawStore Tryz.prog 100 ⟨b, o, none⟩ v w) := store_any (by kernel_rfl) w b o v
theorem Tryz.ld116 (w : World) (b o : Nat) : (loadOp 173 (.pointer (some ⟨b, o, none⟩))).run Tryz.prog w = lookOr (cellAt (blk w b) o) w (rawLoad Tryz.prog 173 ⟨b, o, none⟩ w) := load_one Tryz.underlying173 rfl w b o
theorem Tryz.st116 (w : World) (b o : Nat) (v : Value) : (storeOp 173 (.pointer (some ⟨b, o, none⟩)) v).run Tryz.prog w = putOr (storeIn w (blk w b) b o 1 v) (rawStore Tryz.prog 173 ⟨b, o, none⟩ v w) := store_any (by kernel_rfl) w b o v
theorem Tryz.ld121 (w : World) (b o : Nat) : (loadOp 230 (.pointer (some ⟨b, o, none⟩))).run Tryz.prog w = lookOr (cellAt (blk w b) o) w (rawLoad Tryz.prog 230 ⟨b, o, none⟩ w) := load_one Tryz.underlying230 rfl w b o
theorem Tryz.st121 (w : World) (b o : Nat) (v : Value) : (storeOp 230 (.pointer (some ⟨b, o, none⟩)) v).run Tryz.prog w = putOr (storeIn w (blk w b) b o 1 v) (rawStore Tryz.prog 230 ⟨b, o, none⟩ v w) := store_any (by kernel_rfl) w b o v
theorem Tryz.ld135 (w : World) (b o : Nat) : (loadOp 205 (.pointer (some ⟨b, o, none⟩))).run Tryz.prog w = lookOr (cellAt (blk w b) o) w (rawLoad Tryz.prog 205 ⟨b, o, none⟩ w) := load_one Tryz.underlying205 rfl w b o
theorem Tryz.st135 (w : World) (b o : Nat) (v : Value) : (storeOp 205 (.pointer (some ⟨b, o, none⟩)) v).run Tryz.prog w = putOr (storeIn w (blk w b) b o 1 v) (rawStore Tryz.prog 205 ⟨b, o, none⟩ v w) := store_any (by kernel_rfl) w b o v
theorem Tryz.ld136 (w : World) (b o : Nat) : (loadOp 206 (.pointer (some ⟨b, o, none⟩))).run Tryz.prog w = lookOr (cellAt (blk w b) o) w (rawLoad Tryz.prog 206 ⟨b, o, none⟩ w) := load_one Tryz.underlying206 rfl w b o
theorem Tryz.st136 (w : World) (b o : Nat) (v : Value) : (storeOp 206 (.pointer (some ⟨b, o, none⟩)) v).run Tryz.prog w = putOr (storeIn w (blk w b) b o 1 v) (rawStore Tryz.prog 206 ⟨b, o, none⟩ v w) := store_any (by kernel_rfl) w b o v
theorem Tryz.ld138 (w : World) (b o : Nat) : (loadOp 44 (.pointer (some ⟨b, o, none⟩))).run Tryz.prog w = lookOr (cellAt (blk w b) o) w (rawLoad Tryz.prog 44 ⟨b, o, none⟩ w) := load_one Tryz.underlying44 rfl w b o
theorem Tryz.st138 (w : World) (b o : Nat) (v : Value) : (storeOp 44 (.pointer (some ⟨b, o, none⟩)) v).run Tryz.prog w = putOr (storeIn w (blk w b) b o 1 v) (rawStore Tryz.prog 44 ⟨b, o, none⟩ v w) := store_any (by kernel_rfl) w b o v
theorem Tryz.ld139 (w : World) (b o : Nat) : (loadOp 45 (.pointer (some ⟨b, o, none⟩))).run Tryz.prog w = lookOr (cellAt (blk w b) o) w (rawLoad Tryz.prog 45 ⟨b, o, none⟩ w) := load_one Tryz.underlying45 rfl w b o
theorem Tryz.st139 (w : World) (b o : Nat) (v : Value) : (storeOp 45 (.pointer (some ⟨b, o, none⟩)) v).run Tryz.prog w = putOr (storeIn w (blk w b) b o 1 v) (rawStore Tryz.prog 45 ⟨b, o, none⟩ v w) := store_any (by kernel_rfl) w b o v
theorem Tryz.ld142 (w : World) (b o : Nat) : (loadOp 162 (.pointer (some ⟨b, o, none⟩))).run Tryz.prog w = lookOr (cellAt (blk w b) o) w (rawLoad Tryz.prog 162 ⟨b, o, none⟩ w) := load_one Tryz.underlying162 rfl w b o
theorem Tryz.st142 (w : World) (b o : Nat) (v : Value) : (storeOp 162 (.pointer (some ⟨b, o, none⟩)) v).run Tryz.prog w = putOr (storeIn w (blk w b) b o 1 v) (rawStore Tryz.prog 162 ⟨b, o, none⟩ v w) := store_any (by kernel_rfl) w b o v
theorem Tryz.ld143 (w : World) (b o : Nat) : (loadOp 163 (.pointer (some ⟨b, o, none⟩))).run Tryz.prog w = lookOr (cellAt (blk w b) o) w (rawLoad Tryz.prog 163 ⟨b, o, none⟩ w) := load_one Tryz.underlying163 rfl w b o
theorem Tryz.st143 (w : World) (b o : Nat) (v : Value) : (storeOp 163 (.pointer (some ⟨b, o, none⟩)) v).run Tryz.prog w = putOr (storeIn w (blk w b) b o 1 v) (rawStore Tryz.prog 163 ⟨b, o, none⟩ v w) := store_any (by kernel_rfl) w b o v
theorem Tryz.ld146 (w : World) (b o : Nat) : (loadOp 212 (.pointer (some ⟨b, o, none⟩))).run Tryz.prog w = lookOr (cellAt (blk w b) o) w (rawLoad Tryz.prog 212 ⟨b, o, none⟩ w) := load_one Tryz.underlying212 rfl w b o
theorem Tryz.st146 (w : World) (b o : Nat) (v : Value) : (storeOp 212 (.pointer (some ⟨b, o, none⟩)) v).run Tryz.prog w = putOr (storeIn w (blk w b) b o 1 v) (rawStore Tryz.prog 212 ⟨b, o, none⟩ v w) := store_any (by kernel_rfl) w b o v
theorem Tryz.ld148 (w : World) (b o : Nat) : (loadOp 257 (.pointer (some ⟨b, o, none⟩))).run Tryz.prog w = lookOr (cellAt (blk w b) o) w (rawLoad Tryz.prog 257 ⟨b, o, none⟩ w) := load_one Tryz.underlying257 rfl w b o
theorem Tryz.st148 (w : World) (b o : Nat) (v : Value) : (storeOp 257 (.pointer (some ⟨b, o, none⟩)) v).run Tryz.prog w = putOr (storeIn w (blk w b) b o 1 v) (rawStore Tryz.prog 257 ⟨b, o, none⟩ v w) := store_any (by kernel_rfl) w b o v
theorem Tryz.ld154 (w : World) (b o : Nat) : (loadOp 78 (.pointer (some ⟨b, o, none⟩))).run Tryz.prog w = lookOr (cellAt (blk w b) o) w (rawLoad Tryz.prog 78 ⟨b, o, none⟩ w) := load_one Tryz.underlying78 rfl w b o
theorem Tryz.st154 (w : World) (b o : Nat) (v : Value) : (storeOp 78 (.pointer (some ⟨b, o, none⟩)) v).run Tryz.prog w = putOr (storeIn w (blk w b) b o 1 v) (rawStore Tryz.prog 78 ⟨b, o, none⟩ v w) := store_any (by kernel_rfl) w b o v
theorem Tryz.ld159 (w : World) (b o : Nat) : (loadOp 51 (.pointer (some ⟨b, o, none⟩))).run Tryz.prog w = lookOr (cellAt (blk w b) o) w (rawLoad Tryz.prog 51 ⟨b, o, none⟩ w) := load_one Tryz.underlying51 rfl w b o
theorem Tryz.st159 (w : World) (b o : Nat) (v : Value) : (storeOp 51 (.pointer (some ⟨b, o, none⟩)) v).run Tryz.prog w = putOr (storeIn w (blk w b) b o 1 v) (rawStore Tryz.prog 51 ⟨b, o, none⟩ v w) := store_any (by kernel_rfl) w b o v
theorem Tryz.ld173 (w : World) (b o : Nat) : (loadOp 251 (.pointer (some ⟨b, o, none⟩))).run Tryz.prog w = lookOr (cellAt (blk w b) o) w (rawLoad Tryz.prog 251 ⟨b, o, none⟩ w) := load_one Tryz.underlying251 rfl w b o
theorem Tryz.st173 (w : World) (b o : Nat) (v : Value) : (storeOp 251 (.pointer (some ⟨b, o, none⟩)) v).run Tryz.prog w = putOr (storeIn w (blk w b) b o 1 v) (rawStore Tryz.prog 251 ⟨b, o, none⟩ v w) := store_any (by kernel_rfl) w b o v
theorem Tryz.ld183 (w : World) (b o : Nat) : (loadOp 180 (.pointer (some ⟨b, o, none⟩))).run Tryz.prog w = lookOr (cellAt (blk w b) o) w (rawLoad Tryz.prog 180 ⟨b, o, none⟩ w) := load_one Tryz.underlying180 rfl w b o
theorem Tryz.st183 (w : World) (b o : Nat) (v : Value) : (storeOp 180 (.pointer (some ⟨b, o, none⟩)) v).run Tryz.prog w = putOr (storeIn w (blk w b) b o 1 v) (rawStore Tryz.prog 180 ⟨b, o, none⟩ v w) := store_any (by kernel_rfl) w b o v
theorem Tryz.ld184 (w : World) (b o : Nat) : (loadOp 265 (.pointer (some ⟨b, o, none⟩))).run Tryz.prog w = lookOr (cellAt (blk w b) o) w (rawLoad Tryz.prog 265 ⟨b, o, none⟩ w) := load_one Tryz.underlying265 rfl w b o
theorem Tryz.st184 (w : World) (b o : Nat) (v : Value) : (storeOp 265 (.pointer (some ⟨b, o, none⟩)) v).run Tryz.prog w = putOr (storeIn w (blk w b) b o 1 v) (rawStore Tryz.prog 265 ⟨b, o, none⟩ v w) := store_any (by kernel_rfl) w b o v
theorem Tryz.ld187 (w : World) (b o : Nat) : (loadOp 133 (.pointer (some ⟨b, o, none⟩))).run Tryz.prog w = lookOr (cellAt (blk w b) o) w (rawLoad Tryz.prog 133 ⟨b, o, none⟩ w) := load_one Tryz.underlying133 rfl w b o
theorem Tryz.st187 (w : World) (b o : Nat) (v : Value) : (storeOp 133 (.pointer (some ⟨b, o, none⟩)) v).run Tryz.prog w = putOr (storeIn w (blk w b) b o 1 v) (rawStore Tryz.prog 133 ⟨b, o, none⟩ v w) := store_any (by kernel_rfl) w b o v
theorem Tryz.ld192 (w : World) (b o : Nat) : (loadOp 142 (.pointer (some ⟨b, o, none⟩))).run Tryz.prog w = lookOr (cellAt (blk w b) o) w (rawLoad Tryz.prog 142 ⟨b, o, none⟩ w) := load_one Tryz.underlying142 rfl w b o
theorem Tryz.st192 (w : World) (b o : Nat) (v : Value) : (storeOp 142 (.pointer (some ⟨b, o, none⟩)) v).run Tryz.prog w = putOr (storeIn w (blk w b) b o 1 v) (rawStore Tryz.prog 142 ⟨b, o, none⟩ v w) := store_any (by kernel_rfl) w b o v
theorem Tryz.ld195 (w : World) (b o : Nat) : (loadOp 145 (.pointer (some ⟨b, o, none⟩))).run Tryz.prog w = lookOr (cellAt (blk w b) o) w (rawLoad Tryz.prog 145 ⟨b, o, none⟩ w) := load_one Tryz.underlying145 rfl w b o
theorem Tryz.st195 (w : World) (b o : Nat) (v : Value) : (storeOp 145 (.pointer (some ⟨b, o, none⟩)) v).run Tryz.prog w = putOr (storeIn w (blk w b) b o 1 v) (rawStore Tryz.prog 145 ⟨b, o, none⟩ v w) := store_any (by kernel_rfl) w b o v
theorem Tryz.ld217 (w : World) (b o : Nat) : (loadOp 177 (.pointer (some ⟨b, o, none⟩))).run Tryz.prog w = lookOr (cellAt (blk w b) o) w (rawLoad Tryz.prog 177 ⟨b, o, none⟩ w) := load_one Tryz.underlying177 rfl w b o
theorem Tryz.st217 (w : World) (b o : Nat) (v : Value) : (storeOp 177 (.pointer (some ⟨b, o, none⟩)) v).run Tryz.prog w = putOr (storeIn w (blk w b) b o 1 v) (rawStore Tryz.prog 177 ⟨b, o, none⟩ v w) := store_any (by kernel_rfl) w b o v
theorem Tryz.ld222 (w : World) (b o : Nat) : (loadOp 270 (.pointer (some ⟨b, o, none⟩))).run Tryz.prog w = lookOr (cellAt (blk w b) o) w (rawLoad Tryz.prog 270 ⟨b, o, none⟩ w) := load_one Tryz.underlying270 rfl w b o
theorem Tryz.st222 (w : World) (b o : Nat) (v : Value) : (storeOp 270 (.pointer (some ⟨b, o, none⟩)) v).run Tryz.prog w = putOr (storeIn w (blk w b) b o 1 v) (rawStore Tryz.prog 270 ⟨b, o, none⟩ v w) := store_any (by kernel_rfl) w b o v
theorem Tryz.ld241 (w : World) (b o : Nat) : (loadOp 288 (.pointer (some ⟨b, o, none⟩))).run Tryz.prog w = lookOr (cellAt (blk w b) o) w (rawLoad Tryz.prog 288 ⟨b, o, none⟩ w) := load_one Tryz.underlying288 rfl w b o
theorem Tryz.st241 (w : World) (b o : Nat) (v : Value) : (storeOp 288 (.pointer (some ⟨b, o, none⟩)) v).run Tryz.prog w = putOr (storeIn w (blk w b) b o 1 v) (rawStore Tryz.prog 288 ⟨b, o, none⟩ v w) := store_any (by kernel_rfl) w b o v
theorem Tryz.ld248 (w : World) (b o : Nat) : (loadOp 293 (.pointer (some ⟨b, o, none⟩))).run Tryz.prog w = lookOr (cellAt (blk w b) o) w (rawLoad Tryz.prog 293 ⟨b, o, none⟩ w) := load_one Tryz.underlying293 rfl w b o
theorem Tryz.st248 (w : World) (b o : Nat) (v : Value) : (storeOp 293 (.pointer (some ⟨b, o, none⟩)) v).run Tryz.prog w = putOr (storeIn w (blk w b) b o 1 v) (rawStore Tryz.prog 293 ⟨b, o, none⟩ v w) := store_any (by kernel_rfl) w b o v
theorem Tryz.ld268 (w : World) (b o : Nat) : (loadOp 317 (.pointer (some ⟨b, o, none⟩))).run Tryz.prog w = lookOr (cellAt (blk w b) o) w (rawLoad Tryz.prog 317 ⟨b, o, none⟩ w) := load_one Tryz.underlying317 rfl w b o
theorem Tryz.st268 (w : World) (b o : Nat) (v : Value) : (storeOp 317 (.pointer (some ⟨b, o, none⟩)) v).run Tryz.prog w = putOr (storeIn w (blk w b) b o 1 v) (rawStore Tryz.prog 317 ⟨b, o, none⟩ v w) := store_any (by kernel_rfl) w b o v
theorem Tryz.ld272 (w : World) (b o : Nat) : (loadOp 321 (.pointer (some ⟨b, o, none⟩))).run Tryz.prog w = lookOr (cellAt (blk w b) o) w (rawLoad Tryz.prog 321 ⟨b, o, none⟩ w) := load_one Tryz.underlying321 rfl w b o
theorem Tryz.st272 (w : World) (b o : Nat) (v : Value) : (storeOp 321 (.pointer (some ⟨b, o, none⟩)) v).run Tryz.prog w = putOr (storeIn w (blk w b) b o 1 v) (rawStore Tryz.prog 321 ⟨b, o, none⟩ v w) := store_any (by kernel_rfl) w b o v
theorem Tryz.ld129 (w : World) (b o : Nat) : (loadOp 232 (.pointer (some ⟨b, o, none⟩))).run Tryz.prog w = lookOr (segAt (blk w b) o 20) w (rawLoad Tryz.prog 232 ⟨b, o, none⟩ w) := load_agg Tryz.underlying232 rfl (by kernel_rfl) w b o
theorem Tryz.st129 (w : World) (b o : Nat) (v : Value) : (storeOp 232 (.pointer (some ⟨b, o, none⟩)) v).run Tryz.prog w = putOr (storeIn w (blk w b) b o 20 v) (rawStore Tryz.prog 232 ⟨b, o, none⟩ v w) := store_any (by kernel_rfl) w b o v
theorem Tryz.al129 (w : World) : (allocOp 232).run Tryz.prog w = .ok (.value (.pointer (some ⟨w.heap.size, 0, none⟩))) (w.alloc (.cells (arr u8v ((Vector.replicate 20 0) : (Vector UInt8 20))).toArray 232)) := alloc_any (v := .agg (arr u8v ((Vector.replicate 20 0) : (Vector UInt8 20))).toArray) (by kernel_rfl) w
theorem Tryz.ld31 (w : World) (b o : Nat) : (loadOp 37 (.pointer (some ⟨b, o, none⟩))).run Tryz.prog w = lookOr (segAt (blk w b) o 5) w (rawLoad Tryz.prog 37 ⟨b, o, none⟩ w) := load_agg Tryz.underlying37 rfl (by kernel_rfl) w b o
theorem Tryz.st31 (w : World) (b o : Nat) (v : Value) : (storeOp 37 (.pointer (some ⟨b, o, none⟩)) v).run Tryz.prog w = putOr (storeIn w (blk w b) b o 5 v) (rawStore Tryz.prog 37 ⟨b, o, none⟩ v w) := store_any (by kernel_rfl) w b o v
theorem Tryz.al31 (w : World) : (allocOp 37).run Tryz.prog w = .ok (.value (.pointer (some ⟨w.heap.size, 0, none⟩))) (w.alloc (.cells (Request.enc (Request.zero : Request)).toArray 37)) := alloc_any (v := .agg (Request.enc (Request.zero : Request)).toArray) (by kernel_rfl) w
theorem Tryz.ld52 (w : World) (b o : Nat) : (loadOp 67 (.pointer (some ⟨b, o, none⟩))).run Tryz.prog w = lookOr (segAt (blk w b) o 3) w (rawLoad Tryz.prog 67 ⟨b, o, none⟩ w) := load_agg Tryz.underlying67 rfl (by kernel_rfl) w b o
theorem Tryz.st52 (w : World) (b o : Nat) (v : Value) : (storeOp 67 (.pointer (some ⟨b, o, none⟩)) v).run Tryz.prog w = putOr (storeIn w (blk w b) b o 3 v) (rawStore Tryz.prog 67 ⟨b, o, none⟩ v w) := store_any (by kernel_rfl) w b o v
theorem Tryz.al52 (w : World) : (allocOp 67).run Tryz.prog w = .ok (.value (.pointer (some ⟨w.heap.size, 0, none⟩))) (w.alloc (.cells (Item.enc (Item.zero : Item)).toArray 67)) := alloc_any (v := .agg (Item.enc (Item.zero : Item)).toArray) (by kernel_rfl) w
theorem Tryz.ld70 (w : World) (b o : Nat) : (loadOp 99 (.pointer (some ⟨b, o, none⟩))).run Tryz.prog w = lookOr (segAt (blk w b) o 2) w (rawLoad Tryz.prog 99 ⟨b, o, none⟩ w) := load_agg Tryz.underlying99 rfl (by kernel_rfl) w b o
theorem Tryz.st70 (w : World) (b o : Nat) (v : Value) : (storeOp 99 (.pointer (some ⟨b, o, none⟩)) v).run Tryz.prog w = putOr (storeIn w (blk w b) b o 2 v) (rawStore Tryz.prog 99 ⟨b, o, none⟩ v w) := store_any (by kernel_rfl) w b o v
theorem Tryz.al70 (w : World) : (allocOp 99).run Tryz.prog w = .ok (.value (.pointer (some ⟨w.heap.size, 0, none⟩))) (w.alloc (.cells (GOp.enc (GOp.zero : GOp)).toArray 99)) := alloc_any (v := .agg (GOp.enc (GOp.zero : GOp)).toArray) (by kernel_rfl) w
theorem Tryz.ld74 (w : World) (b o : Nat) : (loadOp 171 (.pointer (some ⟨b, o, none⟩))).run Tryz.prog w = lookOr (segAt (blk w b) o 2) w (rawLoad Tryz.prog 171 ⟨b, o, none⟩ w) := load_agg Tryz.underlying171 rfl (by kernel_rfl) w b o
theorem Tryz.st74 (w : World) (b o : Nat) (v : Value) : (storeOp 171 (.pointer (some ⟨b, o, none⟩)) v).run Tryz.prog w = putOr (storeIn w (blk w b) b o 2 v) (rawStore Tryz.prog 171 ⟨b, o, none⟩ v w) := store_any (by kernel_rfl) w b o v
theorem Tryz.al74 (w : World) : (allocOp 171).run Tryz.prog w = .ok (.value (.pointer (some ⟨w.heap.size, 0, none⟩))) (w.alloc (.cells (Reader.enc (Reader.zero : Reader)).toArray 171)) := alloc_any (v := .agg (Reader.enc (Reader.zero : Reader)).toArray) (by kernel_rfl) w
theorem Tryz.ld93 (w : World) (b o : Nat) : (loadOp 93 (.pointer (some ⟨b, o, none⟩))).run Tryz.prog w = lookOr (segAt (blk w b) o 2) w (rawLoad Tryz.prog 93 ⟨b, o, none⟩ w) := load_agg Tryz.underlying93 rfl (by kernel_rfl) w b o
theorem Tryz.st93 (w : World) (b o : Nat) (v : Value) : (storeOp 93 (.pointer (some ⟨b, o, none⟩)) v).run Tryz.prog w = putOr (storeIn w (blk w b) b o 2 v) (rawStore Tryz.prog 93 ⟨b, o, none⟩ v w) := store_any (by kernel_rfl) w b o v
theorem Tryz.al93 (w : World) : (allocOp 93).run Tryz.prog w = .ok (.value (.pointer (some ⟨w.heap.size, 0, none⟩))) (w.alloc (.cells (Slot.enc (Slot.zero : Slot)).toArray 93)) := alloc_any (v := .agg (Slot.enc (Slot.zero : Slot)).toArray) (by kernel_rfl) w
end Go.Proofs.Qxb6500787aGreat
