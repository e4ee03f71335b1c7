/- WRITTEN BY A PROGRAM (tools/gentypes.py) off the dump's types: Go's structs as Lean structures, their cells, their fields' places. -/
import Derived.Test.Qxb6500787aProg
import Derived.Test.Qxb6500787aMem
namespace Go.Proofs.Qxb6500787a
open Go.Blk
set_option linter.unusedSimpArgs false

structure Request where
  kind : Int
  blob : Sl
  items : Sl
  pred : Int
  slots : Sl
def Request.zero : Request := ⟨0, ⟨none, 0, 0⟩, ⟨none, 0, 0⟩, 0, ⟨none, 0, 0⟩⟩
def Request.enc (x : Request) : List Value :=
  [.int .i64 x.kind] ++ ([Sl.val x.blob] ++ ([Sl.val x.items] ++ ([.int .i64 x.pred] ++ ([Sl.val x.slots]))))
theorem Request.length_enc (x : Request) : x.enc.length = 5 := by simp [Request.enc, length_arr, length_arrS]
theorem Request.one_enc (x : Request) : x.enc.all (fun v => v.oneCell') = true := by simp only [Request.enc, List.all_append, List.all_cons, List.all_nil, oneC_int, oneC_bool, oneC_string, oneC_pointer, oneC_slice, Bool.and_true, Bool.true_and, implies_true, one_arr_u8, one_arr_u32, one_arr_u64, one_arr_i64, one_arr_bool, one_arr_str, one_arr_ptr, one_arr_sl, one_arrS, one_u8, one_u32, one_u64, one_i64, one_bool, one_str, one_sl, one_ptr]
theorem Request.ok_enc (x : Request) : okCells 5 x.enc = true := ok_mk x.length_enc x.one_enc
theorem Request.all_get (x : Request) : seg x.enc 0 5 = x.enc := seg_all _ _ x.length_enc
theorem Request.all_set (x y : Request) : splice x.enc 0 y.enc = y.enc := splice_all _ _ (by rw [x.length_enc, y.length_enc])
theorem Request.kind_get (x : Request) : nth x.enc 0 = some (.int .i64 x.kind) := get_of (pre := ([] : List Value)) (post := ([Sl.val x.blob] ++ [Sl.val x.items] ++ [.int .i64 x.pred] ++ [Sl.val x.slots] : List Value)) (by simp [Request.enc]) (by simp [length_arr, length_arrS])
theorem Request.kind_set (x : Request) (y : Int) : splice x.enc 0 ([.int .i64 y]) = ({ x with kind := y } : Request).enc := by
  rw [splice_of (pre := ([] : List Value)) (mid := [.int .i64 x.kind]) (post := ([Sl.val x.blob] ++ [Sl.val x.items] ++ [.int .i64 x.pred] ++ [Sl.val x.slots] : List Value)) (by simp [Request.enc]) (by simp [length_arr, length_arrS]) (by simp [length_arr, length_arrS])]
  simp [Request.enc]
theorem Request.blob_get (x : Request) : nth x.enc 1 = some (Sl.val x.blob) := get_of (pre := ([.int .i64 x.kind] : List Value)) (post := ([Sl.val x.items] ++ [.int .i64 x.pred] ++ [Sl.val x.slots] : List Value)) (by simp [Request.enc]) (by simp [length_arr, length_arrS])
theorem Request.blob_set (x : Request) (y : Sl) : splice x.enc 1 ([Sl.val y]) = ({ x with blob := y } : Request).enc := by
  rw [splice_of (pre := ([.int .i64 x.kind] : List Value)) (mid := [Sl.val x.blob]) (post := ([Sl.val x.items] ++ [.int .i64 x.pred] ++ [Sl.val x.slots] : List Value)) (by simp [Request.enc]) (by simp [length_arr, length_arrS]) (by simp [length_arr, length_arrS])]
  simp [Request.enc]
theorem Request.items_get (x : Request) : nth x.enc 2 = some (Sl.val x.items) := get_of (pre := ([.int .i64 x.kind] ++ [Sl.val x.blob] : List Value)) (post := ([.int .i64 x.pred] ++ [Sl.val x.slots] : List Value)) (by simp [Request.enc]) (by simp [length_arr, length_arrS])
theorem Request.items_set (x : Request) (y : Sl) : splice x.enc 2 ([Sl.val y]) = ({ x with items := y } : Request).enc := by
  rw [splice_of (pre := ([.int .i64 x.kind] ++ [Sl.val x.blob] : List Value)) (mid := [Sl.val x.items]) (post := ([.int .i64 x.pred] ++ [Sl.val x.slots] : List Value)) (by simp [Request.enc]) (by simp [length_arr, length_arrS]) (by simp [length_arr, length_arrS])]
  simp [Request.enc]
theorem Request.pred_get (x : Request) : nth x.enc 3 = some (.int .i64 x.pred) := get_of (pre := ([.int .i64 x.kind] ++ [Sl.val x.blob] ++ [Sl.val x.items] : List Value)) (post := ([Sl.val x.slots] : List Value)) (by simp [Request.enc]) (by simp [length_arr, length_arrS])
theorem Request.pred_set (x : Request) (y : Int) : splice x.enc 3 ([.int .i64 y]) = ({ x with pred := y } : Request).enc := by
  rw [splice_of (pre := ([.int .i64 x.kind] ++ [Sl.val x.blob] ++ [Sl.val x.items] : List Value)) (mid := [.int .i64 x.pred]) (post := ([Sl.val x.slots] : List Value)) (by simp [Request.enc]) (by simp [length_arr, length_arrS]) (by simp [length_arr, length_arrS])]
  simp [Request.enc]
theorem Request.slots_get (x : Request) : nth x.enc 4 = some (Sl.val x.slots) := get_of (pre := ([.int .i64 x.kind] ++ [Sl.val x.blob] ++ [Sl.val x.items] ++ [.int .i64 x.pred] : List Value)) (post := ([] : List Value)) (by simp [Request.enc]) (by simp [length_arr, length_arrS])
theorem Request.slots_set (x : Request) (y : Sl) : splice x.enc 4 ([Sl.val y]) = ({ x with slots := y } : Request).enc := by
  rw [splice_of (pre := ([.int .i64 x.kind] ++ [Sl.val x.blob] ++ [Sl.val x.items] ++ [.int .i64 x.pred] : List Value)) (mid := [Sl.val x.slots]) (post := ([] : List Value)) (by simp [Request.enc]) (by simp [length_arr, length_arrS]) (by simp [length_arr, length_arrS])]
  simp [Request.enc]

structure Item where
  del : Bool
  pred : Int
  args : Sl
def Item.zero : Item := ⟨false, 0, ⟨none, 0, 0⟩⟩
def Item.enc (x : Item) : List Value :=
  [.bool x.del] ++ ([.int .i64 x.pred] ++ ([Sl.val x.args]))
theorem Item.length_enc (x : Item) : x.enc.length = 3 := by simp [Item.enc, length_arr, length_arrS, Request.length_enc]
theorem Item.one_enc (x : Item) : x.enc.all (fun v => v.oneCell') = true := by simp only [Item.enc, List.all_append, List.all_cons, List.all_nil, oneC_int, oneC_bool, oneC_string, oneC_pointer, oneC_slice, Bool.and_true, Bool.true_and, implies_true, one_arr_u8, one_arr_u32, one_arr_u64, one_arr_i64, one_arr_bool, one_arr_str, one_arr_ptr, one_arr_sl, one_arrS, one_u8, one_u32, one_u64, one_i64, one_bool, one_str, one_sl, one_ptr, Request.one_enc]
theorem Item.ok_enc (x : Item) : okCells 3 x.enc = true := ok_mk x.length_enc x.one_enc
theorem Item.all_get (x : Item) : seg x.enc 0 3 = x.enc := seg_all _ _ x.length_enc
theorem Item.all_set (x y : Item) : splice x.enc 0 y.enc = y.enc := splice_all _ _ (by rw [x.length_enc, y.length_enc])
theorem Item.del_get (x : Item) : nth x.enc 0 = some (.bool x.del) := get_of (pre := ([] : List Value)) (post := ([.int .i64 x.pred] ++ [Sl.val x.args] : List Value)) (by simp [Item.enc]) (by simp [length_arr, length_arrS, Request.length_enc])
theorem Item.del_set (x : Item) (y : Bool) : splice x.enc 0 ([.bool y]) = ({ x with del := y } : Item).enc := by
  rw [splice_of (pre := ([] : List Value)) (mid := [.bool x.del]) (post := ([.int .i64 x.pred] ++ [Sl.val x.args] : List Value)) (by simp [Item.enc]) (by simp [length_arr, length_arrS, Request.length_enc]) (by simp [length_arr, length_arrS, Request.length_enc])]
  simp [Item.enc]
theorem Item.pred_get (x : Item) : nth x.enc 1 = some (.int .i64 x.pred) := get_of (pre := ([.bool x.del] : List Value)) (post := ([Sl.val x.args] : List Value)) (by simp [Item.enc]) (by simp [length_arr, length_arrS, Request.length_enc])
theorem Item.pred_set (x : Item) (y : Int) : splice x.enc 1 ([.int .i64 y]) = ({ x with pred := y } : Item).enc := by
  rw [splice_of (pre := ([.bool x.del] : List Value)) (mid := [.int .i64 x.pred]) (post := ([Sl.val x.args] : List Value)) (by simp [Item.enc]) (by simp [length_arr, length_arrS, Request.length_enc]) (by simp [length_arr, length_arrS, Request.length_enc])]
  simp [Item.enc]
theorem Item.args_get (x : Item) : nth x.enc 2 = some (Sl.val x.args) := get_of (pre := ([.bool x.del] ++ [.int .i64 x.pred] : List Value)) (post := ([] : List Value)) (by simp [Item.enc]) (by simp [length_arr, length_arrS, Request.length_enc])
theorem Item.args_set (x : Item) (y : Sl) : splice x.enc 2 ([Sl.val y]) = ({ x with args := y } : Item).enc := by
  rw [splice_of (pre := ([.bool x.del] ++ [.int .i64 x.pred] : List Value)) (mid := [Sl.val x.args]) (post := ([] : List Value)) (by simp [Item.enc]) (by simp [length_arr, length_arrS, Request.length_enc]) (by simp [length_arr, length_arrS, Request.length_enc])]
  simp [Item.enc]

structure GOp where
  kind : Int
  raw : Sl
def GOp.zero : GOp := ⟨0, ⟨none, 0, 0⟩⟩
def GOp.enc (x : GOp) : List Value :=
  [.int .i64 x.kind] ++ ([Sl.val x.raw])
theorem GOp.length_enc (x : GOp) : x.enc.length = 2 := by simp [GOp.enc, length_arr, length_arrS, Request.length_enc, Item.length_enc]
theorem GOp.one_enc (x : GOp) : x.enc.all (fun v => v.oneCell') = true := by simp only [GOp.enc, List.all_append, List.all_cons, List.all_nil, oneC_int, oneC_bool, oneC_string, oneC_pointer, oneC_slice, Bool.and_true, Bool.true_and, implies_true, one_arr_u8, one_arr_u32, one_arr_u64, one_arr_i64, one_arr_bool, one_arr_str, one_arr_ptr, one_arr_sl, one_arrS, one_u8, one_u32, one_u64, one_i64, one_bool, one_str, one_sl, one_ptr, Request.one_enc, Item.one_enc]
theorem GOp.ok_enc (x : GOp) : okCells 2 x.enc = true := ok_mk x.length_enc x.one_enc
theorem GOp.all_get (x : GOp) : seg x.enc 0 2 = x.enc := seg_all _ _ x.length_enc
theorem GOp.all_set (x y : GOp) : splice x.enc 0 y.enc = y.enc := splice_all _ _ (by rw [x.length_enc, y.length_enc])
theorem GOp.kind_get (x : GOp) : nth x.enc 0 = some (.int .i64 x.kind) := get_of (pre := ([] : List Value)) (post := ([Sl.val x.raw] : List Value)) (by simp [GOp.enc]) (by simp [length_arr, length_arrS, Request.length_enc, Item.length_enc])
theorem GOp.kind_set (x : GOp) (y : Int) : splice x.enc 0 ([.int .i64 y]) = ({ x with kind := y } : GOp).enc := by
  rw [splice_of (pre := ([] : List Value)) (mid := [.int .i64 x.kind]) (post := ([Sl.val x.raw] : List Value)) (by simp [GOp.enc]) (by simp [length_arr, length_arrS, Request.length_enc, Item.length_enc]) (by simp [length_arr, length_arrS, Request.length_enc, Item.length_enc])]
  simp [GOp.enc]
theorem GOp.raw_get (x : GOp) : nth x.enc 1 = some (Sl.val x.raw) := get_of (pre := ([.int .i64 x.kind] : List Value)) (post := ([] : List Value)) (by simp [GOp.enc]) (by simp [length_arr, length_arrS, Request.length_enc, Item.length_enc])
theorem GOp.raw_set (x : GOp) (y : Sl) : splice x.enc 1 ([Sl.val y]) = ({ x with raw := y } : GOp).enc := by
  rw [splice_of (pre := ([.int .i64 x.kind] : List Value)) (mid := [Sl.val x.raw]) (post := ([] : List Value)) (by simp [GOp.enc]) (by simp [length_arr, length_arrS, Request.length_enc, Item.length_enc]) (by simp [length_arr, length_arrS, Request.length_enc, Item.length_enc])]
  simp [GOp.enc]

structure Reader where
  buf : Sl
  at_ : Int
def Reader.zero : Reader := ⟨⟨none, 0, 0⟩, 0⟩
def Reader.enc (x : Reader) : List Value :=
  [Sl.val x.buf] ++ ([.int .i64 x.at_])
theorem Reader.length_enc (x : Reader) : x.enc.length = 2 := by simp [Reader.enc, length_arr, length_arrS, Request.length_enc, Item.length_enc, GOp.length_enc]
theorem Reader.one_enc (x : Reader) : x.enc.all (fun v => v.oneCell') = true := by simp only [Reader.enc, List.all_append, List.all_cons, List.all_nil, oneC_int, oneC_bool, oneC_string, oneC_pointer, oneC_slice, Bool.and_true, Bool.true_and, implies_true, one_arr_u8, one_arr_u32, one_arr_u64, one_arr_i64, one_arr_bool, one_arr_str, one_arr_ptr, one_arr_sl, one_arrS, one_u8, one_u32, one_u64, one_i64, one_bool, one_str, one_sl, one_ptr, Request.one_enc, Item.one_enc, GOp.one_enc]
theorem Reader.ok_enc (x : Reader) : okCells 2 x.enc = true := ok_mk x.length_enc x.one_enc
theorem Reader.all_get (x : Reader) : seg x.enc 0 2 = x.enc := seg_all _ _ x.length_enc
theorem Reader.all_set (x y : Reader) : splice x.enc 0 y.enc = y.enc := splice_all _ _ (by rw [x.length_enc, y.length_enc])
theorem Reader.buf_get (x : Reader) : nth x.enc 0 = some (Sl.val x.buf) := get_of (pre := ([] : List Value)) (post := ([.int .i64 x.at_] : List Value)) (by simp [Reader.enc]) (by simp [length_arr, length_arrS, Request.length_enc, Item.length_enc, GOp.length_enc])
theorem Reader.buf_set (x : Reader) (y : Sl) : splice x.enc 0 ([Sl.val y]) = ({ x with buf := y } : Reader).enc := by
  rw [splice_of (pre := ([] : List Value)) (mid := [Sl.val x.buf]) (post := ([.int .i64 x.at_] : List Value)) (by simp [Reader.enc]) (by simp [length_arr, length_arrS, Request.length_enc, Item.length_enc, GOp.length_enc]) (by simp [length_arr, length_arrS, Request.length_enc, Item.length_enc, GOp.length_enc])]
  simp [Reader.enc]
theorem Reader.at__get (x : Reader) : nth x.enc 1 = some (.int .i64 x.at_) := get_of (pre := ([Sl.val x.buf] : List Value)) (post := ([] : List Value)) (by simp [Reader.enc]) (by simp [length_arr, length_arrS, Request.length_enc, Item.length_enc, GOp.length_enc])
theorem Reader.at__set (x : Reader) (y : Int) : splice x.enc 1 ([.int .i64 y]) = ({ x with at_ := y } : Reader).enc := by
  rw [splice_of (pre := ([Sl.val x.buf] : List Value)) (mid := [.int .i64 x.at_]) (post := ([] : List Value)) (by simp [Reader.enc]) (by simp [length_arr, length_arrS, Request.length_enc, Item.length_enc, GOp.length_enc]) (by simp [length_arr, length_arrS, Request.length_enc, Item.length_enc, GOp.length_enc])]
  simp [Reader.enc]

structure Slot where
  bound : Bool
  name : ByteArray
def Slot.zero : Slot := ⟨false, ByteArray.empty⟩
def Slot.enc (x : Slot) : List Value :=
  [.bool x.bound] ++ ([.string x.name])
theorem Slot.length_enc (x : Slot) : x.enc.length = 2 := by simp [Slot.enc, length_arr, length_arrS, Request.length_enc, Item.length_enc, GOp.length_enc, Reader.length_enc]
theorem Slot.one_enc (x : Slot) : x.enc.all (fun v => v.oneCell') = true := by simp only [Slot.enc, List.all_append, List.all_cons, List.all_nil, oneC_int, oneC_bool, oneC_string, oneC_pointer, oneC_slice, Bool.and_true, Bool.true_and, implies_true, one_arr_u8, one_arr_u32, one_arr_u64, one_arr_i64, one_arr_bool, one_arr_str, one_arr_ptr, one_arr_sl, one_arrS, one_u8, one_u32, one_u64, one_i64, one_bool, one_str, one_sl, one_ptr, Request.one_enc, Item.one_enc, GOp.one_enc, Reader.one_enc]
theorem Slot.ok_enc (x : Slot) : okCells 2 x.enc = true := ok_mk x.length_enc x.one_enc
theorem Slot.all_get (x : Slot) : seg x.enc 0 2 = x.enc := seg_all _ _ x.length_enc
theorem Slot.all_set (x y : Slot) : splice x.enc 0 y.enc = y.enc := splice_all _ _ (by rw [x.length_enc, y.length_enc])
theorem Slot.bound_get (x : Slot) : nth x.enc 0 = some (.bool x.bound) := get_of (pre := ([] : List Value)) (post := ([.string x.name] : List Value)) (by simp [Slot.enc]) (by simp [length_arr, length_arrS, Request.length_enc, Item.length_enc, GOp.length_enc, Reader.length_enc])
theorem Slot.bound_set (x : Slot) (y : Bool) : splice x.enc 0 ([.bool y]) = ({ x with bound := y } : Slot).enc := by
  rw [splice_of (pre := ([] : List Value)) (mid := [.bool x.bound]) (post := ([.string x.name] : List Value)) (by simp [Slot.enc]) (by simp [length_arr, length_arrS, Request.length_enc, Item.length_enc, GOp.length_enc, Reader.length_enc]) (by simp [length_arr, length_arrS, Request.length_enc, Item.length_enc, GOp.length_enc, Reader.length_enc])]
  simp [Slot.enc]
theorem Slot.name_get (x : Slot) : nth x.enc 1 = some (.string x.name) := get_of (pre := ([.bool x.bound] : List Value)) (post := ([] : List Value)) (by simp [Slot.enc]) (by simp [length_arr, length_arrS, Request.length_enc, Item.length_enc, GOp.length_enc, Reader.length_enc])
theorem Slot.name_set (x : Slot) (y : ByteArray) : splice x.enc 1 ([.string y]) = ({ x with name := y } : Slot).enc := by
  rw [splice_of (pre := ([.bool x.bound] : List Value)) (mid := [.string x.name]) (post := ([] : List Value)) (by simp [Slot.enc]) (by simp [length_arr, length_arrS, Request.length_enc, Item.length_enc, GOp.length_enc, Reader.length_enc]) (by simp [length_arr, length_arrS, Request.length_enc, Item.length_enc, GOp.length_enc, Reader.length_enc])]
  simp [Slot.enc]

/-! ### the program's own loads, stores, new variables -/
theorem Try.ld26 (w : World) (b o : Nat) : (loadOp 26 (.pointer (some ⟨b, o, none⟩))).run Try.prog w = lookOr (cellAt (blk w b) o) w (rawLoad Try.prog 26 ⟨b, o, none⟩ w) := load_one Try.underlying26 rfl w b o
theorem Try.st26 (w : World) (b o : Nat) (v : Value) : (storeOp 26 (.pointer (some ⟨b, o, none⟩)) v).run Try.prog w = putOr (storeIn w (blk w b) b o 1 v) (rawStore Try.prog 26 ⟨b, o, none⟩ v w) := store_any (by kernel_rfl) w b o v
theorem Try.ld27 (w : World) (b o : Nat) : (loadOp 27 (.pointer (some ⟨b, o, none⟩))).run Try.prog w = lookOr (cellAt (blk w b) o) w (rawLoad Try.prog 27 ⟨b, o, none⟩ w) := load_one Try.underlying27 rfl w b o
theorem Try.st27 (w : World) (b o : Nat) (v : Value) : (storeOp 27 (.pointer (some ⟨b, o, none⟩)) v).run Try.prog w = putOr (storeIn w (blk w b) b o 1 v) (rawStore Try.prog 27 ⟨b, o, none⟩ v w) := store_any (by kernel_rfl) w b o v
theorem Try.ld28 (w : World) (b o : Nat) : (loadOp 28 (.pointer (some ⟨b, o, none⟩))).run Try.prog w = lookOr (cellAt (blk w b) o) w (rawLoad Try.prog 28 ⟨b, o, none⟩ w) := load_one Try.underlying28 rfl w b o
theorem Try.st28 (w : World) (b o : Nat) (v : Value) : (storeOp 28 (.pointer (some ⟨b, o, none⟩)) v).run Try.prog w = putOr (storeIn w (blk w b) b o 1 v) (rawStore Try.prog 28 ⟨b, o, none⟩ v w) := store_any (by kernel_rfl) w b o v
theorem Try.ld3 (w : World) (b o : Nat) : (loadOp 3 (.pointer (some ⟨b, o, none⟩))).run Try.prog w = lookOr (cellAt (blk w b) o) w (rawLoad Try.prog 3 ⟨b, o, none⟩ w) := load_one Try.underlying3 rfl w b o
theorem Try.st3 (w : World) (b o : Nat) (v : Value) : (storeOp 3 (.pointer (some ⟨b, o, none⟩)) v).run Try.prog w = putOr (storeIn w (blk w b) b o 1 v) (rawStore Try.prog 3 ⟨b, o, none⟩ v w) := store_any (by kernel_rfl) w b o v
theorem Try.ld29 (w : World) (b o : Nat) : (loadOp 29 (.pointer (some ⟨b, o, none⟩))).run Try.prog w = lookOr (cellAt (blk w b) o) w (rawLoad Try.prog 29 ⟨b, o, none⟩ w) := load_one Try.underlying29 rfl w b o
theorem Try.st29 (w : World) (b o : Nat) (v : Value) : (storeOp 29 (.pointer (some ⟨b, o, none⟩)) v).run Try.prog w = putOr (storeIn w (blk w b) b o 1 v) (rawStore Try.prog 29 ⟨b, o, none⟩ v w) := store_any (by kernel_rfl) w b o v
theorem Try.ld4 (w : World) (b o : Nat) : (loadOp 4 (.pointer (some ⟨b, o, none⟩))).run Try.prog w = lookOr (cellAt (blk w b) o) w (rawLoad Try.prog 4 ⟨b, o, none⟩ w) := load_one Try.underlying4 rfl w b o
theorem Try.st4 (w : World) (b o : Nat) (v : Value) : (storeOp 4 (.pointer (some ⟨b, o, none⟩)) v).run Try.prog w = putOr (storeIn w (blk w b) b o 1 v) (rawStore Try.prog 4 ⟨b, o, none⟩ v w) := store_any (by kernel_rfl) w b o v
theorem Try.ld50 (w : World) (b o : Nat) : (loadOp 50 (.pointer (some ⟨b, o, none⟩))).run Try.prog w = lookOr (cellAt (blk w b) o) w (rawLoad Try.prog 50 ⟨b, o, none⟩ w) := load_one Try.underlying50 rfl w b o
theorem Try.st50 (w : World) (b o : Nat) (v : Value) : (storeOp 50 (.pointer (some ⟨b, o, none⟩)) v).run Try.prog w = putOr (storeIn w (blk w b) b o 1 v) (rawStore Try.prog 50 ⟨b, o, none⟩ v w) := store_any (by kernel_rfl) w b o v
theorem Try.ld68 (w : World) (b o : Nat) : (loadOp 68 (.pointer (some ⟨b, o, none⟩))).run Try.prog w = lookOr (cellAt (blk w b) o) w (rawLoad Try.prog 68 ⟨b, o, none⟩ w) := load_one Try.underlying68 rfl w b o
theorem Try.st68 (w : World) (b o : Nat) (v : Value) : (storeOp 68 (.pointer (some ⟨b, o, none⟩)) v).run Try.prog w = putOr (storeIn w (blk w b) b o 1 v) (rawStore Try.prog 68 ⟨b, o, none⟩ v w) := store_any (by kernel_rfl) w b o v
theorem Try.ld9 (w : World) (b o : Nat) : (loadOp 9 (.pointer (some ⟨b, o, none⟩))).run Try.prog w = lookOr (cellAt (blk w b) o) w (rawLoad Try.prog 9 ⟨b, o, none⟩ w) := load_one Try.underlying9 rfl w b o
theorem Try.st9 (w : World) (b o : Nat) (v : Value) : (storeOp 9 (.pointer (some ⟨b, o, none⟩)) v).run Try.prog w = putOr (storeIn w (blk w b) b o 1 v) (rawStore Try.prog 9 ⟨b, o, none⟩ v w) := store_any (by kernel_rfl) w b o v
theorem Try.ld2 (w : World) (b o : Nat) : (loadOp 2 (.pointer (some ⟨b, o, none⟩))).run Try.prog w = lookOr (cellAt (blk w b) o) w (rawLoad Try.prog 2 ⟨b, o, none⟩ w) := load_one Try.underlying2 rfl w b o
theorem Try.st2 (w : World) (b o : Nat) (v : Value) : (storeOp 2 (.pointer (some ⟨b, o, none⟩)) v).run Try.prog w = putOr (storeIn w (blk w b) b o 1 v) (rawStore Try.prog 2 ⟨b, o, none⟩ v w) := store_any (by kernel_rfl) w b o v
theorem Try.ld5 (w : World) (b o : Nat) : (loadOp 5 (.pointer (some ⟨b, o, none⟩))).run Try.prog w = lookOr (cellAt (blk w b) o) w (rawLoad Try.prog 5 ⟨b, o, none⟩ w) := load_one Try.underlying5 rfl w b o
theorem Try.st5 (w : World) (b o : Nat) (v : Value) : (storeOp 5 (.pointer (some ⟨b, o, none⟩)) v).run Try.prog w = putOr (storeIn w (blk w b) b o 1 v) (rawStore Try.prog 5 ⟨b, o, none⟩ v w) := store_any (by kernel_rfl) w b o v
theorem Try.ld12 (w : World) (b o : Nat) : (loadOp 12 (.pointer (some ⟨b, o, none⟩))).run Try.prog w = lookOr (cellAt (blk w b) o) w (rawLoad Try.prog 12 ⟨b, o, none⟩ w) := load_one Try.underlying12 rfl w b o
theorem Try.st12 (w : World) (b o : Nat) (v : Value) : (storeOp 12 (.pointer (some ⟨b, o, none⟩)) v).run Try.prog w = putOr (storeIn w (blk w b) b o 1 v) (rawStore Try.prog 12 ⟨b, o, none⟩ v w) := store_any (by kernel_rfl) w b o v
theorem Try.ld21 (w : World) (b o : Nat) : (loadOp 21 (.pointer (some ⟨b, o, none⟩))).run Try.prog w = lookOr (cellAt (blk w b) o) w (rawLoad Try.prog 21 ⟨b, o, none⟩ w) := load_one Try.underlying21 rfl w b o
theorem Try.st21 (w : World) (b o : Nat) (v : Value) : (storeOp 21 (.pointer (some ⟨b, o, none⟩)) v).run Try.prog w = putOr (storeIn w (blk w b) b o 1 v) (rawStore Try.prog 21 ⟨b, o, none⟩ v w) := store_any (by kernel_rfl) w b o v
theorem Try.ld22 (w : World) (b o : Nat) : (loadOp 22 (.pointer (some ⟨b, o, none⟩))).run Try.prog w = lookOr (cellAt (blk w b) o) w (rawLoad Try.prog 22 ⟨b, o, none⟩ w) := load_one Try.underlying22 rfl w b o
theorem Try.st22 (w : World) (b o : Nat) (v : Value) : (storeOp 22 (.pointer (some ⟨b, o, none⟩)) v).run Try.prog w = putOr (storeIn w (blk w b) b o 1 v) (rawStore Try.prog 22 ⟨b, o, none⟩ v w) := store_any (by kernel_rfl) w b o v
theorem Try.ld24 (w : World) (b o : Nat) : (loadOp 24 (.pointer (some ⟨b, o, none⟩))).run Try.prog w = lookOr (cellAt (blk w b) o) w (rawLoad Try.prog 24 ⟨b, o, none⟩ w) := load_one Try.underlying24 rfl w b o
theorem Try.st24 (w : World) (b o : Nat) (v : Value) : (storeOp 24 (.pointer (some ⟨b, o, none⟩)) v).run Try.prog w = putOr (storeIn w (blk w b) b o 1 v) (rawStore Try.prog 24 ⟨b, o, none⟩ v w) := store_any (by kernel_rfl) w b o v
theorem Try.ld32 (w : World) (b o : Nat) : (loadOp 32 (.pointer (some ⟨b, o, none⟩))).run Try.prog w = lookOr (cellAt (blk w b) o) w (rawLoad Try.prog 32 ⟨b, o, none⟩ w) := load_one Try.underlying32 rfl w b o
theorem Try.st32 (w : World) (b o : Nat) (v : Value) : (storeOp 32 (.pointer (some ⟨b, o, none⟩)) v).run Try.prog w = putOr (storeIn w (blk w b) b o 1 v) (rawStore Try.prog 32 ⟨b, o, none⟩ v w) := store_any (by kernel_rfl) w b o v
theorem Try.ld40 (w : World) (b o : Nat) : (loadOp 40 (.pointer (some ⟨b, o, none⟩))).run Try.prog w = lookOr (cellAt (blk w b) o) w (rawLoad Try.prog 40 ⟨b, o, none⟩ w) := load_one Try.underlying40 rfl w b o
theorem Try.st40 (w : World) (b o : Nat) (v : Value) : (storeOp 40 (.pointer (some ⟨b, o, none⟩)) v).run Try.prog w = putOr (storeIn w (blk w b) b o 1 v) (rawStore Try.prog 40 ⟨b, o, none⟩ v w) := store_any (by kernel_rfl) w b o v
theorem Try.ld44 (w : World) (b o : Nat) : (loadOp 44 (.pointer (some ⟨b, o, none⟩))).run Try.prog w = lookOr (cellAt (blk w b) o) w (rawLoad Try.prog 44 ⟨b, o, none⟩ w) := load_one Try.underlying44 rfl w b o
theorem Try.st44 (w : World) (b o : Nat) (v : Value) : (storeOp 44 (.pointer (some ⟨b, o, none⟩)) v).run Try.prog w = putOr (storeIn w (blk w b) b o 1 v) (rawStore Try.prog 44 ⟨b, o, none⟩ v w) := store_any (by kernel_rfl) w b o v
theorem Try.ld49 (w : World) (b o : Nat) : (loadOp 49 (.pointer (some ⟨b, o, none⟩))).run Try.prog w = lookOr (cellAt (blk w b) o) w (rawLoad Try.prog 49 ⟨b, o, none⟩ w) := load_one Try.underlying49 rfl w b o
theorem Try.st49 (w : World) (b o : Nat) (v : Value) : (storeOp 49 (.pointer (some ⟨b, o, none⟩)) v).run Try.prog w = putOr (storeIn w (blk w b) b o 1 v) (rawStore Try.prog 49 ⟨b, o, none⟩ v w) := store_any (by kernel_rfl) w b o v
theorem Try.ld58 (w : World) (b o : Nat) : (loadOp 58 (.pointer (some ⟨b, o, none⟩))).run Try.prog w = lookOr (cellAt (blk w b) o) w (rawLoad Try.prog 58 ⟨b, o, none⟩ w) := load_one Try.underlying58 rfl w b o
theorem Try.st58 (w : World) (b o : Nat) (v : Value) : (storeOp 58 (.pointer (some ⟨b, o, none⟩)) v).run Try.prog w = putOr (storeIn w (blk w b) b o 1 v) (rawStore Try.prog 58 ⟨b, o, none⟩ v w) := store_any (by kernel_rfl) w b o v
theorem Try.ld63 (w : World) (b o : Nat) : (loadOp 63 (.pointer (some ⟨b, o, none⟩))).run Try.prog w = lookOr (cellAt (blk w b) o) w (rawLoad Try.prog 63 ⟨b, o, none⟩ w) := load_one Try.underlying63 rfl w b o
theorem Try.st63 (w : World) (b o : Nat) (v : Value) : (storeOp 63 (.pointer (some ⟨b, o, none⟩)) v).run Try.prog w = putOr (storeIn w (blk w b) b o 1 v) (rawStore Try.prog 63 ⟨b, o, none⟩ v w) := store_any (by kernel_rfl) w b o v
theorem Try.ld97 (w : World) (b o : Nat) : (loadOp 97 (.pointer (some ⟨b, o, none⟩))).run Try.prog w = lookOr (cellAt (blk w b) o) w (rawLoad Try.prog 97 ⟨b, o, none⟩ w) := load_one Try.underlying97 rfl w b o
theorem Try.st97 (w : World) (b o : Nat) (v : Value) : (storeOp 97 (.pointer (some ⟨b, o, none⟩)) v).run Try.prog w = putOr (storeIn w (blk w b) b o 1 v) (rawStore Try.prog 97 ⟨b, o, none⟩ v w) := store_any (by kernel_rfl) w b o v
theorem Try.ld101 (w : World) (b o : Nat) : (loadOp 101 (.pointer (some ⟨b, o, none⟩))).run Try.prog w = lookOr (cellAt (blk w b) o) w (rawLoad Try.prog 101 ⟨b, o, none⟩ w) := load_one Try.underlying101 rfl w b o
theorem Try.st101 (w : World) (b o : Nat) (v : Value) : (storeOp 101 (.pointer (some ⟨b, o, none⟩)) v).run Try.prog w = putOr (storeIn w (blk w b) b o 1 v) (rawStore Try.prog 101 ⟨b, o, none⟩ v w) := store_any (by kernel_rfl) w b o v
theorem Try.ld116 (w : World) (b o : Nat) : (loadOp 116 (.pointer (some ⟨b, o, none⟩))).run Try.prog w = lookOr (cellAt (blk w b) o) w (rawLoad Try.prog 116 ⟨b, o, none⟩ w) := load_one Try.underlying116 rfl w b o
theorem Try.st116 (w : World) (b o : Nat) (v : Value) : (storeOp 116 (.pointer (some ⟨b, o, none⟩)) v).run Try.prog w = putOr (storeIn w (blk w b) b o 1 v) (rawStore Try.prog 116 ⟨b, o, none⟩ v w) := store_any (by kernel_rfl) w b o v
theorem Try.ld121 (w : World) (b o : Nat) : (loadOp 121 (.pointer (some ⟨b, o, none⟩))).run Try.prog w = lookOr (cellAt (blk w b) o) w (rawLoad Try.prog 121 ⟨b, o, none⟩ w) := load_one Try.underlying121 rfl w b o
theorem Try.st121 (w : World) (b o : Nat) (v : Value) : (storeOp 121 (.pointer (some ⟨b, o, none⟩)) v).run Try.prog w = putOr (storeIn w (blk w b) b o 1 v) (rawStore Try.prog 121 ⟨b, o, none⟩ v w) := store_any (by kernel_rfl) w b o v
theorem Try.ld135 (w : World) (b o : Nat) : (loadOp 135 (.pointer (some ⟨b, o, none⟩))).run Try.prog w = lookOr (cellAt (blk w b) o) w (rawLoad Try.prog 135 ⟨b, o, none⟩ w) := load_one Try.underlying135 rfl w b o
theorem Try.st135 (w : World) (b o : Nat) (v : Value) : (storeOp 135 (.pointer (some ⟨b, o, none⟩)) v).run Try.prog w = putOr (storeIn w (blk w b) b o 1 v) (rawStore Try.prog 135 ⟨b, o, none⟩ v w) := store_any (by kernel_rfl) w b o v
theorem Try.ld136 (w : World) (b o : Nat) : (loadOp 136 (.pointer (some ⟨b, o, none⟩))).run Try.prog w = lookOr (cellAt (blk w b) o) w (rawLoad Try.prog 136 ⟨b, o, none⟩ w) := load_one Try.underlying136 rfl w b o
theorem Try.st136 (w : World) (b o : Nat) (v : Value) : (storeOp 136 (.pointer (some ⟨b, o, none⟩)) v).run Try.prog w = putOr (storeIn w (blk w b) b o 1 v) (rawStore Try.prog 136 ⟨b, o, none⟩ v w) := store_any (by kernel_rfl) w b o v
theorem Try.ld138 (w : World) (b o : Nat) : (loadOp 138 (.pointer (some ⟨b, o, none⟩))).run Try.prog w = lookOr (cellAt (blk w b) o) w (rawLoad Try.prog 138 ⟨b, o, none⟩ w) := load_one Try.underlying138 rfl w b o
theorem Try.st138 (w : World) (b o : Nat) (v : Value) : (storeOp 138 (.pointer (some ⟨b, o, none⟩)) v).run Try.prog w = putOr (storeIn w (blk w b) b o 1 v) (rawStore Try.prog 138 ⟨b, o, none⟩ v w) := store_any (by kernel_rfl) w b o v
theorem Try.ld139 (w : World) (b o : Nat) : (loadOp 139 (.pointer (some ⟨b, o, none⟩))).run Try.prog w = lookOr (cellAt (blk w b) o) w (rawLoad Try.prog 139 ⟨b, o, none⟩ w) := load_one Try.underlying139 rfl w b o
theorem Try.st139 (w : World) (b o : Nat) (v : Value) : (storeOp 139 (.pointer (some ⟨b, o, none⟩)) v).run Try.prog w = putOr (storeIn w (blk w b) b o 1 v) (rawStore Try.prog 139 ⟨b, o, none⟩ v w) := store_any (by kernel_rfl) w b o v
theorem Try.ld142 (w : World) (b o : Nat) : (loadOp 142 (.pointer (some ⟨b, o, none⟩))).run Try.prog w = lookOr (cellAt (blk w b) o) w (rawLoad Try.prog 142 ⟨b, o, none⟩ w) := load_one Try.underlying142 rfl w b o
theorem Try.st142 (w : World) (b o : Nat) (v : Value) : (storeOp 142 (.pointer (some ⟨b, o, none⟩)) v).run Try.prog w = putOr (storeIn w (blk w b) b o 1 v) (rawStore Try.prog 142 ⟨b, o, none⟩ v w) := store_any (by kernel_rfl) w b o v
theorem Try.ld143 (w : World) (b o : Nat) : (loadOp 143 (.pointer (some ⟨b, o, none⟩))).run Try.prog w = lookOr (cellAt (blk w b) o) w (rawLoad Try.prog 143 ⟨b, o, none⟩ w) := load_one Try.underlying143 rfl w b o
theorem Try.st143 (w : World) (b o : Nat) (v : Value) : (storeOp 143 (.pointer (some ⟨b, o, none⟩)) v).run Try.prog w = putOr (storeIn w (blk w b) b o 1 v) (rawStore Try.prog 143 ⟨b, o, none⟩ v w) := store_any (by kernel_rfl) w b o v
theorem Try.ld146 (w : World) (b o : Nat) : (loadOp 146 (.pointer (some ⟨b, o, none⟩))).run Try.prog w = lookOr (cellAt (blk w b) o) w (rawLoad Try.prog 146 ⟨b, o, none⟩ w) := load_one Try.underlying146 rfl w b o
theorem Try.st146 (w : World) (b o : Nat) (v : Value) : (storeOp 146 (.pointer (some ⟨b, o, none⟩)) v).run Try.prog w = putOr (storeIn w (blk w b) b o 1 v) (rawStore Try.prog 146 ⟨b, o, none⟩ v w) := store_any (by kernel_rfl) w b o v
theorem Try.ld148 (w : World) (b o : Nat) : (loadOp 148 (.pointer (some ⟨b, o, none⟩))).run Try.prog w = lookOr (cellAt (blk w b) o) w (rawLoad Try.prog 148 ⟨b, o, none⟩ w) := load_one Try.underlying148 rfl w b o
theorem Try.st148 (w : World) (b o : Nat) (v : Value) : (storeOp 148 (.pointer (some ⟨b, o, none⟩)) v).run Try.prog w = putOr (storeIn w (blk w b) b o 1 v) (rawStore Try.prog 148 ⟨b, o, none⟩ v w) := store_any (by kernel_rfl) w b o v
theorem Try.ld154 (w : World) (b o : Nat) : (loadOp 154 (.pointer (some ⟨b, o, none⟩))).run Try.prog w = lookOr (cellAt (blk w b) o) w (rawLoad Try.prog 154 ⟨b, o, none⟩ w) := load_one Try.underlying154 rfl w b o
theorem Try.st154 (w : World) (b o : Nat) (v : Value) : (storeOp 154 (.pointer (some ⟨b, o, none⟩)) v).run Try.prog w = putOr (storeIn w (blk w b) b o 1 v) (rawStore Try.prog 154 ⟨b, o, none⟩ v w) := store_any (by kernel_rfl) w b o v
theorem Try.ld159 (w : World) (b o : Nat) : (loadOp 159 (.pointer (some ⟨b, o, none⟩))).run Try.prog w = lookOr (cellAt (blk w b) o) w (rawLoad Try.prog 159 ⟨b, o, none⟩ w) := load_one Try.underlying159 rfl w b o
theorem Try.st159 (w : World) (b o : Nat) (v : Value) : (storeOp 159 (.pointer (some ⟨b, o, none⟩)) v).run Try.prog w = putOr (storeIn w (blk w b) b o 1 v) (rawStore Try.prog 159 ⟨b, o, none⟩ v w) := store_any (by kernel_rfl) w b o v
theorem Try.ld173 (w : World) (b o : Nat) : (loadOp 173 (.pointer (some ⟨b, o, none⟩))).run Try.prog w = lookOr (cellAt (blk w b) o) w (rawLoad Try.prog 173 ⟨b, o, none⟩ w) := load_one Try.underlying173 rfl w b o
theorem Try.st173 (w : World) (b o : Nat) (v : Value) : (storeOp 173 (.pointer (some ⟨b, o, none⟩)) v).run Try.prog w = putOr (storeIn w (blk w b) b o 1 v) (rawStore Try.prog 173 ⟨b, o, none⟩ v w) := store_any (by kernel_rfl) w b o v
theorem Try.ld183 (w : World) (b o : Nat) : (loadOp 183 (.pointer (some ⟨b, o, none⟩))).run Try.prog w = lookOr (cellAt (blk w b) o) w (rawLoad Try.prog 183 ⟨b, o, none⟩ w) := load_one Try.underlying183 rfl w b o
theorem Try.st183 (w : World) (b o : Nat) (v : Value) : (storeOp 183 (.pointer (some ⟨b, o, none⟩)) v).run Try.prog w = putOr (storeIn w (blk w b) b o 1 v) (rawStore Try.prog 183 ⟨b, o, none⟩ v w) := store_any (by kernel_rfl) w b o v
theorem Try.ld184 (w : World) (b o : Nat) : (loadOp 184 (.pointer (some ⟨b, o, none⟩))).run Try.prog w = lookOr (cellAt (blk w b) o) w (rawLoad Try.prog 184 ⟨b, o, none⟩ w) := load_one Try.underlying184 rfl w b o
theorem Try.st184 (w : World) (b o : Nat) (v : Value) : (storeOp 184 (.pointer (some ⟨b, o, none⟩)) v).run Try.prog w = putOr (storeIn w (blk w b) b o 1 v) (rawStore Try.prog 184 ⟨b, o, none⟩ v w) := store_any (by kernel_rfl) w b o v
theorem Try.ld187 (w : World) (b o : Nat) : (loadOp 187 (.pointer (some ⟨b, o, none⟩))).run Try.prog w = lookOr (cellAt (blk w b) o) w (rawLoad Try.prog 187 ⟨b, o, none⟩ w) := load_one Try.underlying187 rfl w b o
theorem Try.st187 (w : World) (b o : Nat) (v : Value) : (storeOp 187 (.pointer (some ⟨b, o, none⟩)) v).run Try.prog w = putOr (storeIn w (blk w b) b o 1 v) (rawStore Try.prog 187 ⟨b, o, none⟩ v w) := store_any (by kernel_rfl) w b o v
theorem Try.ld192 (w : World) (b o : Nat) : (loadOp 192 (.pointer (some ⟨b, o, none⟩))).run Try.prog w = lookOr (cellAt (blk w b) o) w (rawLoad Try.prog 192 ⟨b, o, none⟩ w) := load_one Try.underlying192 rfl w b o
theorem Try.st192 (w : World) (b o : Nat) (v : Value) : (storeOp 192 (.pointer (some ⟨b, o, none⟩)) v).run Try.prog w = putOr (storeIn w (blk w b) b o 1 v) (rawStore Try.prog 192 ⟨b, o, none⟩ v w) := store_any (by kernel_rfl) w b o v
theorem Try.ld195 (w : World) (b o : Nat) : (loadOp 195 (.pointer (some ⟨b, o, none⟩))).run Try.prog w = lookOr (cellAt (blk w b) o) w (rawLoad Try.prog 195 ⟨b, o, none⟩ w) := load_one Try.underlying195 rfl w b o
theorem Try.st195 (w : World) (b o : Nat) (v : Value) : (storeOp 195 (.pointer (some ⟨b, o, none⟩)) v).run Try.prog w = putOr (storeIn w (blk w b) b o 1 v) (rawStore Try.prog 195 ⟨b, o, none⟩ v w) := store_any (by kernel_rfl) w b o v
theorem Try.ld217 (w : World) (b o : Nat) : (loadOp 217 (.pointer (some ⟨b, o, none⟩))).run Try.prog w = lookOr (cellAt (blk w b) o) w (rawLoad Try.prog 217 ⟨b, o, none⟩ w) := load_one Try.underlying217 rfl w b o
theorem Try.st217 (w : World) (b o : Nat) (v : Value) : (storeOp 217 (.pointer (some ⟨b, o, none⟩)) v).run Try.prog w = putOr (storeIn w (blk w b) b o 1 v) (rawStore Try.prog 217 ⟨b, o, none⟩ v w) := store_any (by kernel_rfl) w b o v
theorem Try.ld222 (w : World) (b o : Nat) : (loadOp 222 (.pointer (some ⟨b, o, none⟩))).run Try.prog w = lookOr (cellAt (blk w b) o) w (rawLoad Try.prog 222 ⟨b, o, none⟩ w) := load_one Try.underlying222 rfl w b o
theorem Try.st222 (w : World) (b o : Nat) (v : Value) : (storeOp 222 (.pointer (some ⟨b, o, none⟩)) v).run Try.prog w = putOr (storeIn w (blk w b) b o 1 v) (rawStore Try.prog 222 ⟨b, o, none⟩ v w) := store_any (by kernel_rfl) w b o v
theorem Try.ld241 (w : World) (b o : Nat) : (loadOp 241 (.pointer (some ⟨b, o, none⟩))).run Try.prog w = lookOr (cellAt (blk w b) o) w (rawLoad Try.prog 241 ⟨b, o, none⟩ w) := load_one Try.underlying241 rfl w b o
theorem Try.st241 (w : World) (b o : Nat) (v : Value) : (storeOp 241 (.pointer (some ⟨b, o, none⟩)) v).run Try.prog w = putOr (storeIn w (blk w b) b o 1 v) (rawStore Try.prog 241 ⟨b, o, none⟩ v w) := store_any (by kernel_rfl) w b o v
theorem Try.ld248 (w : World) (b o : Nat) : (loadOp 248 (.pointer (some ⟨b, o, none⟩))).run Try.prog w = lookOr (cellAt (blk w b) o) w (rawLoad Try.prog 248 ⟨b, o, none⟩ w) := load_one Try.underlying248 rfl w b o
theorem Try.st248 (w : World) (b o : Nat) (v : Value) : (storeOp 248 (.pointer (some ⟨b, o, none⟩)) v).run Try.prog w = putOr (storeIn w (blk w b) b o 1 v) (rawStore Try.prog 248 ⟨b, o, none⟩ v w) := store_any (by kernel_rfl) w b o v
theorem Try.ld268 (w : World) (b o : Nat) : (loadOp 268 (.pointer (some ⟨b, o, none⟩))).run Try.prog w = lookOr (cellAt (blk w b) o) w (rawLoad Try.prog 268 ⟨b, o, none⟩ w) := load_one Try.underlying268 rfl w b o
theorem Try.st268 (w : World) (b o : Nat) (v : Value) : (storeOp 268 (.pointer (some ⟨b, o, none⟩)) v).run Try.prog w = putOr (storeIn w (blk w b) b o 1 v) (rawStore Try.prog 268 ⟨b, o, none⟩ v w) := store_any (by kernel_rfl) w b o v
theorem Try.ld272 (w : World) (b o : Nat) : (loadOp 272 (.pointer (some ⟨b, o, none⟩))).run Try.prog w = lookOr (cellAt (blk w b) o) w (rawLoad Try.prog 272 ⟨b, o, none⟩ w) := load_one Try.underlying272 rfl w b o
theorem Try.st272 (w : World) (b o : Nat) (v : Value) : (storeOp 272 (.pointer (some ⟨b, o, none⟩)) v).run Try.prog w = putOr (storeIn w (blk w b) b o 1 v) (rawStore Try.prog 272 ⟨b, o, none⟩ v w) := store_any (by kernel_rfl) w b o v
theorem Try.ld129 (w : World) (b o : Nat) : (loadOp 129 (.pointer (some ⟨b, o, none⟩))).run Try.prog w = lookOr (segAt (blk w b) o 20) w (rawLoad Try.prog 129 ⟨b, o, none⟩ w) := load_agg Try.underlying129 rfl (by kernel_rfl) w b o
theorem Try.st129 (w : World) (b o : Nat) (v : Value) : (storeOp 129 (.pointer (some ⟨b, o, none⟩)) v).run Try.prog w = putOr (storeIn w (blk w b) b o 20 v) (rawStore Try.prog 129 ⟨b, o, none⟩ v w) := store_any (by kernel_rfl) w b o v
theorem Try.al129 (w : World) : (allocOp 129).run Try.prog w = .ok (.value (.pointer (some ⟨w.heap.size, 0, none⟩))) (w.alloc (.cells (arr u8v ((Vector.replicate 20 0) : (Vector UInt8 20))).toArray 129)) := alloc_any (v := .agg (arr u8v ((Vector.replicate 20 0) : (Vector UInt8 20))).toArray) (by kernel_rfl) w
theorem Try.ld31 (w : World) (b o : Nat) : (loadOp 31 (.pointer (some ⟨b, o, none⟩))).run Try.prog w = lookOr (segAt (blk w b) o 5) w (rawLoad Try.prog 31 ⟨b, o, none⟩ w) := load_agg Try.underlying31 rfl (by kernel_rfl) w b o
theorem Try.st31 (w : World) (b o : Nat) (v : Value) : (storeOp 31 (.pointer (some ⟨b, o, none⟩)) v).run Try.prog w = putOr (storeIn w (blk w b) b o 5 v) (rawStore Try.prog 31 ⟨b, o, none⟩ v w) := store_any (by kernel_rfl) w b o v
theorem Try.al31 (w : World) : (allocOp 31).run Try.prog w = .ok (.value (.pointer (some ⟨w.heap.size, 0, none⟩))) (w.alloc (.cells (Request.enc (Request.zero : Request)).toArray 31)) := alloc_any (v := .agg (Request.enc (Request.zero : Request)).toArray) (by kernel_rfl) w
theorem Try.ld52 (w : World) (b o : Nat) : (loadOp 52 (.pointer (some ⟨b, o, none⟩))).run Try.prog w = lookOr (segAt (blk w b) o 3) w (rawLoad Try.prog 52 ⟨b, o, none⟩ w) := load_agg Try.underlying52 rfl (by kernel_rfl) w b o
theorem Try.st52 (w : World) (b o : Nat) (v : Value) : (storeOp 52 (.pointer (some ⟨b, o, none⟩)) v).run Try.prog w = putOr (storeIn w (blk w b) b o 3 v) (rawStore Try.prog 52 ⟨b, o, none⟩ v w) := store_any (by kernel_rfl) w b o v
theorem Try.al52 (w : World) : (allocOp 52).run Try.prog w = .ok (.value (.pointer (some ⟨w.heap.size, 0, none⟩))) (w.alloc (.cells (Item.enc (Item.zero : Item)).toArray 52)) := alloc_any (v := .agg (Item.enc (Item.zero : Item)).toArray) (by kernel_rfl) w
theorem Try.ld70 (w : World) (b o : Nat) : (loadOp 70 (.pointer (some ⟨b, o, none⟩))).run Try.prog w = lookOr (segAt (blk w b) o 2) w (rawLoad Try.prog 70 ⟨b, o, none⟩ w) := load_agg Try.underlying70 rfl (by kernel_rfl) w b o
theorem Try.st70 (w : World) (b o : Nat) (v : Value) : (storeOp 70 (.pointer (some ⟨b, o, none⟩)) v).run Try.prog w = putOr (storeIn w (blk w b) b o 2 v) (rawStore Try.prog 70 ⟨b, o, none⟩ v w) := store_any (by kernel_rfl) w b o v
theorem Try.al70 (w : World) : (allocOp 70).run Try.prog w = .ok (.value (.pointer (some ⟨w.heap.size, 0, none⟩))) (w.alloc (.cells (GOp.enc (GOp.zero : GOp)).toArray 70)) := alloc_any (v := .agg (GOp.enc (GOp.zero : GOp)).toArray) (by kernel_rfl) w
theorem Try.ld74 (w : World) (b o : Nat) : (loadOp 74 (.pointer (some ⟨b, o, none⟩))).run Try.prog w = lookOr (segAt (blk w b) o 2) w (rawLoad Try.prog 74 ⟨b, o, none⟩ w) := load_agg Try.underlying74 rfl (by kernel_rfl) w b o
theorem Try.st74 (w : World) (b o : Nat) (v : Value) : (storeOp 74 (.pointer (some ⟨b, o, none⟩)) v).run Try.prog w = putOr (storeIn w (blk w b) b o 2 v) (rawStore Try.prog 74 ⟨b, o, none⟩ v w) := store_any (by kernel_rfl) w b o v
theorem Try.al74 (w : World) : (allocOp 74).run Try.prog w = .ok (.value (.pointer (some ⟨w.heap.size, 0, none⟩))) (w.alloc (.cells (Reader.enc (Reader.zero : Reader)).toArray 74)) := alloc_any (v := .agg (Reader.enc (Reader.zero : Reader)).toArray) (by kernel_rfl) w
theorem Try.ld93 (w : World) (b o : Nat) : (loadOp 93 (.pointer (some ⟨b, o, none⟩))).run Try.prog w = lookOr (segAt (blk w b) o 2) w (rawLoad Try.prog 93 ⟨b, o, none⟩ w) := load_agg Try.underlying93 rfl (by kernel_rfl) w b o
theorem Try.st93 (w : World) (b o : Nat) (v : Value) : (storeOp 93 (.pointer (some ⟨b, o, none⟩)) v).run Try.prog w = putOr (storeIn w (blk w b) b o 2 v) (rawStore Try.prog 93 ⟨b, o, none⟩ v w) := store_any (by kernel_rfl) w b o v
theorem Try.al93 (w : World) : (allocOp 93).run Try.prog w = .ok (.value (.pointer (some ⟨w.heap.size, 0, none⟩))) (w.alloc (.cells (Slot.enc (Slot.zero : Slot)).toArray 93)) := alloc_any (v := .agg (Slot.enc (Slot.zero : Slot)).toArray) (by kernel_rfl) w
end Go.Proofs.Qxb6500787a
