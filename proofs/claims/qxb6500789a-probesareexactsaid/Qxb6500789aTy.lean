/- WRITTEN BY A PROGRAM (tools/gentypes.py) off the dump's types: Go's structs as Lean structures, their cells, their fields' places. -/
import Derived.Test.Qxb6500789aProg
import Derived.Test.Qxb6500789aMem
namespace Go.Proofs.Qxb6500789a
open Go.Blk
set_option linter.unusedSimpArgs false

structure Answer where
  code : Int
  n : Int
  name : ByteArray
  rows : Sl
def Answer.zero : Answer := ⟨0, 0, ByteArray.empty, ⟨none, 0, 0⟩⟩
def Answer.enc (x : Answer) : List Value :=
  [.int .i64 x.code] ++ ([.int .i64 x.n] ++ ([.string x.name] ++ ([Sl.val x.rows])))
theorem Answer.length_enc (x : Answer) : x.enc.length = 4 := by simp [Answer.enc, length_arr, length_arrS]
theorem Answer.one_enc (x : Answer) : x.enc.all (fun v => v.oneCell') = true := by simp only [Answer.enc, List.all_append, List.all_cons, List.all_nil, oneC_int, oneC_bool, oneC_string, oneC_pointer, oneC_slice, Bool.and_true, Bool.true_and, implies_true, one_arr_u8, one_arr_u32, one_arr_u64, one_arr_i64, one_arr_bool, one_arr_str, one_arr_ptr, one_arr_sl, one_arrS, one_u8, one_u32, one_u64, one_i64, one_bool, one_str, one_sl, one_ptr]
theorem Answer.ok_enc (x : Answer) : okCells 4 x.enc = true := ok_mk x.length_enc x.one_enc
theorem Answer.all_get (x : Answer) : seg x.enc 0 4 = x.enc := seg_all _ _ x.length_enc
theorem Answer.all_set (x y : Answer) : splice x.enc 0 y.enc = y.enc := splice_all _ _ (by rw [x.length_enc, y.length_enc])
theorem Answer.code_get (x : Answer) : nth x.enc 0 = some (.int .i64 x.code) := get_of (pre := ([] : List Value)) (post := ([.int .i64 x.n] ++ [.string x.name] ++ [Sl.val x.rows] : List Value)) (by simp [Answer.enc]) (by simp [length_arr, length_arrS])
theorem Answer.code_set (x : Answer) (y : Int) : splice x.enc 0 ([.int .i64 y]) = ({ x with code := y } : Answer).enc := by
  rw [splice_of (pre := ([] : List Value)) (mid := [.int .i64 x.code]) (post := ([.int .i64 x.n] ++ [.string x.name] ++ [Sl.val x.rows] : List Value)) (by simp [Answer.enc]) (by simp [length_arr, length_arrS]) (by simp [length_arr, length_arrS])]
  simp [Answer.enc]
theorem Answer.n_get (x : Answer) : nth x.enc 1 = some (.int .i64 x.n) := get_of (pre := ([.int .i64 x.code] : List Value)) (post := ([.string x.name] ++ [Sl.val x.rows] : List Value)) (by simp [Answer.enc]) (by simp [length_arr, length_arrS])
theorem Answer.n_set (x : Answer) (y : Int) : splice x.enc 1 ([.int .i64 y]) = ({ x with n := y } : Answer).enc := by
  rw [splice_of (pre := ([.int .i64 x.code] : List Value)) (mid := [.int .i64 x.n]) (post := ([.string x.name] ++ [Sl.val x.rows] : List Value)) (by simp [Answer.enc]) (by simp [length_arr, length_arrS]) (by simp [length_arr, length_arrS])]
  simp [Answer.enc]
theorem Answer.name_get (x : Answer) : nth x.enc 2 = some (.string x.name) := get_of (pre := ([.int .i64 x.code] ++ [.int .i64 x.n] : List Value)) (post := ([Sl.val x.rows] : List Value)) (by simp [Answer.enc]) (by simp [length_arr, length_arrS])
theorem Answer.name_set (x : Answer) (y : ByteArray) : splice x.enc 2 ([.string y]) = ({ x with name := y } : Answer).enc := by
  rw [splice_of (pre := ([.int .i64 x.code] ++ [.int .i64 x.n] : List Value)) (mid := [.string x.name]) (post := ([Sl.val x.rows] : List Value)) (by simp [Answer.enc]) (by simp [length_arr, length_arrS]) (by simp [length_arr, length_arrS])]
  simp [Answer.enc]
theorem Answer.rows_get (x : Answer) : nth x.enc 3 = some (Sl.val x.rows) := get_of (pre := ([.int .i64 x.code] ++ [.int .i64 x.n] ++ [.string x.name] : List Value)) (post := ([] : List Value)) (by simp [Answer.enc]) (by simp [length_arr, length_arrS])
theorem Answer.rows_set (x : Answer) (y : Sl) : splice x.enc 3 ([Sl.val y]) = ({ x with rows := y } : Answer).enc := by
  rw [splice_of (pre := ([.int .i64 x.code] ++ [.int .i64 x.n] ++ [.string x.name] : List Value)) (mid := [Sl.val x.rows]) (post := ([] : List Value)) (by simp [Answer.enc]) (by simp [length_arr, length_arrS]) (by simp [length_arr, length_arrS])]
  simp [Answer.enc]

structure GOp where
  kind : Int
  rel : Int
  mask : Int
  t : (Vector Int 4)
  n : Int
  name : ByteArray
def GOp.zero : GOp := ⟨0, 0, 0, (Vector.replicate 4 0), 0, ByteArray.empty⟩
def GOp.enc (x : GOp) : List Value :=
  [.int .i64 x.kind] ++ ([.int .i64 x.rel] ++ ([.int .i64 x.mask] ++ (arr i64v x.t ++ ([.int .i64 x.n] ++ ([.string x.name])))))
theorem GOp.length_enc (x : GOp) : x.enc.length = 9 := by simp [GOp.enc, length_arr, length_arrS, Answer.length_enc]
theorem GOp.one_enc (x : GOp) : x.enc.all (fun v => v.oneCell') = true := by simp only [GOp.enc, List.all_append, List.all_cons, List.all_nil, oneC_int, oneC_bool, oneC_string, oneC_pointer, oneC_slice, Bool.and_true, Bool.true_and, implies_true, one_arr_u8, one_arr_u32, one_arr_u64, one_arr_i64, one_arr_bool, one_arr_str, one_arr_ptr, one_arr_sl, one_arrS, one_u8, one_u32, one_u64, one_i64, one_bool, one_str, one_sl, one_ptr, Answer.one_enc]
theorem GOp.ok_enc (x : GOp) : okCells 9 x.enc = true := ok_mk x.length_enc x.one_enc
theorem GOp.all_get (x : GOp) : seg x.enc 0 9 = x.enc := seg_all _ _ x.length_enc
theorem GOp.all_set (x y : GOp) : splice x.enc 0 y.enc = y.enc := splice_all _ _ (by rw [x.length_enc, y.length_enc])
theorem GOp.kind_get (x : GOp) : nth x.enc 0 = some (.int .i64 x.kind) := get_of (pre := ([] : List Value)) (post := ([.int .i64 x.rel] ++ [.int .i64 x.mask] ++ arr i64v x.t ++ [.int .i64 x.n] ++ [.string x.name] : List Value)) (by simp [GOp.enc]) (by simp [length_arr, length_arrS, Answer.length_enc])
theorem GOp.kind_set (x : GOp) (y : Int) : splice x.enc 0 ([.int .i64 y]) = ({ x with kind := y } : GOp).enc := by
  rw [splice_of (pre := ([] : List Value)) (mid := [.int .i64 x.kind]) (post := ([.int .i64 x.rel] ++ [.int .i64 x.mask] ++ arr i64v x.t ++ [.int .i64 x.n] ++ [.string x.name] : List Value)) (by simp [GOp.enc]) (by simp [length_arr, length_arrS, Answer.length_enc]) (by simp [length_arr, length_arrS, Answer.length_enc])]
  simp [GOp.enc]
theorem GOp.rel_get (x : GOp) : nth x.enc 1 = some (.int .i64 x.rel) := get_of (pre := ([.int .i64 x.kind] : List Value)) (post := ([.int .i64 x.mask] ++ arr i64v x.t ++ [.int .i64 x.n] ++ [.string x.name] : List Value)) (by simp [GOp.enc]) (by simp [length_arr, length_arrS, Answer.length_enc])
theorem GOp.rel_set (x : GOp) (y : Int) : splice x.enc 1 ([.int .i64 y]) = ({ x with rel := y } : GOp).enc := by
  rw [splice_of (pre := ([.int .i64 x.kind] : List Value)) (mid := [.int .i64 x.rel]) (post := ([.int .i64 x.mask] ++ arr i64v x.t ++ [.int .i64 x.n] ++ [.string x.name] : List Value)) (by simp [GOp.enc]) (by simp [length_arr, length_arrS, Answer.length_enc]) (by simp [length_arr, length_arrS, Answer.length_enc])]
  simp [GOp.enc]
theorem GOp.mask_get (x : GOp) : nth x.enc 2 = some (.int .i64 x.mask) := get_of (pre := ([.int .i64 x.kind] ++ [.int .i64 x.rel] : List Value)) (post := (arr i64v x.t ++ [.int .i64 x.n] ++ [.string x.name] : List Value)) (by simp [GOp.enc]) (by simp [length_arr, length_arrS, Answer.length_enc])
theorem GOp.mask_set (x : GOp) (y : Int) : splice x.enc 2 ([.int .i64 y]) = ({ x with mask := y } : GOp).enc := by
  rw [splice_of (pre := ([.int .i64 x.kind] ++ [.int .i64 x.rel] : List Value)) (mid := [.int .i64 x.mask]) (post := (arr i64v x.t ++ [.int .i64 x.n] ++ [.string x.name] : List Value)) (by simp [GOp.enc]) (by simp [length_arr, length_arrS, Answer.length_enc]) (by simp [length_arr, length_arrS, Answer.length_enc])]
  simp [GOp.enc]
theorem GOp.t_get (x : GOp) : seg x.enc 3 4 = arr i64v x.t := part_of (pre := ([.int .i64 x.kind] ++ [.int .i64 x.rel] ++ [.int .i64 x.mask] : List Value)) (post := ([.int .i64 x.n] ++ [.string x.name] : List Value)) (by simp [GOp.enc]) (by simp [length_arr, length_arrS, Answer.length_enc]) (by simp [length_arr, length_arrS, Answer.length_enc])
theorem GOp.t_set (x : GOp) (y : (Vector Int 4)) : splice x.enc 3 (arr i64v y) = ({ x with t := y } : GOp).enc := by
  rw [splice_of (pre := ([.int .i64 x.kind] ++ [.int .i64 x.rel] ++ [.int .i64 x.mask] : List Value)) (mid := arr i64v x.t) (post := ([.int .i64 x.n] ++ [.string x.name] : List Value)) (by simp [GOp.enc]) (by simp [length_arr, length_arrS, Answer.length_enc]) (by simp [length_arr, length_arrS, Answer.length_enc])]
  simp [GOp.enc]
theorem GOp.t_at (x : GOp) (i : Nat) (h : i < 4) : nth x.enc (3 + i) = some (.int .i64 x.t[i]) := by
  exact (get_sub (GOp.t_get x) (by simp [length_arr, length_arrS, Answer.length_enc]; omega)).trans (arr_at _ _ h)
theorem GOp.t_put (x : GOp) (i : Nat) (y : Int) (h : i < 4) : splice x.enc (3 + i) [.int .i64 y] = ({ x with t := x.t.set i y h } : GOp).enc := by
  rw [splice_sub (GOp.t_get x) (by simp [GOp.length_enc]) (by simp; omega)]
  rw [show ([.int .i64 y] : List Value) = [i64v y] from rfl, arr_put _ _ _ h, GOp.t_set]
theorem GOp.n_get (x : GOp) : nth x.enc 7 = some (.int .i64 x.n) := get_of (pre := ([.int .i64 x.kind] ++ [.int .i64 x.rel] ++ [.int .i64 x.mask] ++ arr i64v x.t : List Value)) (post := ([.string x.name] : List Value)) (by simp [GOp.enc]) (by simp [length_arr, length_arrS, Answer.length_enc])
theorem GOp.n_set (x : GOp) (y : Int) : splice x.enc 7 ([.int .i64 y]) = ({ x with n := y } : GOp).enc := by
  rw [splice_of (pre := ([.int .i64 x.kind] ++ [.int .i64 x.rel] ++ [.int .i64 x.mask] ++ arr i64v x.t : List Value)) (mid := [.int .i64 x.n]) (post := ([.string x.name] : List Value)) (by simp [GOp.enc]) (by simp [length_arr, length_arrS, Answer.length_enc]) (by simp [length_arr, length_arrS, Answer.length_enc])]
  simp [GOp.enc]
theorem GOp.name_get (x : GOp) : nth x.enc 8 = some (.string x.name) := get_of (pre := ([.int .i64 x.kind] ++ [.int .i64 x.rel] ++ [.int .i64 x.mask] ++ arr i64v x.t ++ [.int .i64 x.n] : List Value)) (post := ([] : List Value)) (by simp [GOp.enc]) (by simp [length_arr, length_arrS, Answer.length_enc])
theorem GOp.name_set (x : GOp) (y : ByteArray) : splice x.enc 8 ([.string y]) = ({ x with name := y } : GOp).enc := by
  rw [splice_of (pre := ([.int .i64 x.kind] ++ [.int .i64 x.rel] ++ [.int .i64 x.mask] ++ arr i64v x.t ++ [.int .i64 x.n] : List Value)) (mid := [.string x.name]) (post := ([] : List Value)) (by simp [GOp.enc]) (by simp [length_arr, length_arrS, Answer.length_enc]) (by simp [length_arr, length_arrS, Answer.length_enc])]
  simp [GOp.enc]

structure Store where
  names : Sl
  rels : Sl
def Store.zero : Store := ⟨⟨none, 0, 0⟩, ⟨none, 0, 0⟩⟩
def Store.enc (x : Store) : List Value :=
  [Sl.val x.names] ++ ([Sl.val x.rels])
theorem Store.length_enc (x : Store) : x.enc.length = 2 := by simp [Store.enc, length_arr, length_arrS, Answer.length_enc, GOp.length_enc]
theorem Store.one_enc (x : Store) : x.enc.all (fun v => v.oneCell') = true := by simp only [Store.enc, List.all_append, List.all_cons, List.all_nil, oneC_int, oneC_bool, oneC_string, oneC_pointer, oneC_slice, Bool.and_true, Bool.true_and, implies_true, one_arr_u8, one_arr_u32, one_arr_u64, one_arr_i64, one_arr_bool, one_arr_str, one_arr_ptr, one_arr_sl, one_arrS, one_u8, one_u32, one_u64, one_i64, one_bool, one_str, one_sl, one_ptr, Answer.one_enc, GOp.one_enc]
theorem Store.ok_enc (x : Store) : okCells 2 x.enc = true := ok_mk x.length_enc x.one_enc
theorem Store.all_get (x : Store) : seg x.enc 0 2 = x.enc := seg_all _ _ x.length_enc
theorem Store.all_set (x y : Store) : splice x.enc 0 y.enc = y.enc := splice_all _ _ (by rw [x.length_enc, y.length_enc])
theorem Store.names_get (x : Store) : nth x.enc 0 = some (Sl.val x.names) := get_of (pre := ([] : List Value)) (post := ([Sl.val x.rels] : List Value)) (by simp [Store.enc]) (by simp [length_arr, length_arrS, Answer.length_enc, GOp.length_enc])
theorem Store.names_set (x : Store) (y : Sl) : splice x.enc 0 ([Sl.val y]) = ({ x with names := y } : Store).enc := by
  rw [splice_of (pre := ([] : List Value)) (mid := [Sl.val x.names]) (post := ([Sl.val x.rels] : List Value)) (by simp [Store.enc]) (by simp [length_arr, length_arrS, Answer.length_enc, GOp.length_enc]) (by simp [length_arr, length_arrS, Answer.length_enc, GOp.length_enc])]
  simp [Store.enc]
theorem Store.rels_get (x : Store) : nth x.enc 1 = some (Sl.val x.rels) := get_of (pre := ([Sl.val x.names] : List Value)) (post := ([] : List Value)) (by simp [Store.enc]) (by simp [length_arr, length_arrS, Answer.length_enc, GOp.length_enc])
theorem Store.rels_set (x : Store) (y : Sl) : splice x.enc 1 ([Sl.val y]) = ({ x with rels := y } : Store).enc := by
  rw [splice_of (pre := ([Sl.val x.names] : List Value)) (mid := [Sl.val x.rels]) (post := ([] : List Value)) (by simp [Store.enc]) (by simp [length_arr, length_arrS, Answer.length_enc, GOp.length_enc]) (by simp [length_arr, length_arrS, Answer.length_enc, GOp.length_enc])]
  simp [Store.enc]

structure GRel where
  arity : Int
  masks : Sl
  rows : Sl
def GRel.zero : GRel := ⟨0, ⟨none, 0, 0⟩, ⟨none, 0, 0⟩⟩
def GRel.enc (x : GRel) : List Value :=
  [.int .i64 x.arity] ++ ([Sl.val x.masks] ++ ([Sl.val x.rows]))
theorem GRel.length_enc (x : GRel) : x.enc.length = 3 := by simp [GRel.enc, length_arr, length_arrS, Answer.length_enc, GOp.length_enc, Store.length_enc]
theorem GRel.one_enc (x : GRel) : x.enc.all (fun v => v.oneCell') = true := by simp only [GRel.enc, List.all_append, List.all_cons, List.all_nil, oneC_int, oneC_bool, oneC_string, oneC_pointer, oneC_slice, Bool.and_true, Bool.true_and, implies_true, one_arr_u8, one_arr_u32, one_arr_u64, one_arr_i64, one_arr_bool, one_arr_str, one_arr_ptr, one_arr_sl, one_arrS, one_u8, one_u32, one_u64, one_i64, one_bool, one_str, one_sl, one_ptr, Answer.one_enc, GOp.one_enc, Store.one_enc]
theorem GRel.ok_enc (x : GRel) : okCells 3 x.enc = true := ok_mk x.length_enc x.one_enc
theorem GRel.all_get (x : GRel) : seg x.enc 0 3 = x.enc := seg_all _ _ x.length_enc
theorem GRel.all_set (x y : GRel) : splice x.enc 0 y.enc = y.enc := splice_all _ _ (by rw [x.length_enc, y.length_enc])
theorem GRel.arity_get (x : GRel) : nth x.enc 0 = some (.int .i64 x.arity) := get_of (pre := ([] : List Value)) (post := ([Sl.val x.masks] ++ [Sl.val x.rows] : List Value)) (by simp [GRel.enc]) (by simp [length_arr, length_arrS, Answer.length_enc, GOp.length_enc, Store.length_enc])
theorem GRel.arity_set (x : GRel) (y : Int) : splice x.enc 0 ([.int .i64 y]) = ({ x with arity := y } : GRel).enc := by
  rw [splice_of (pre := ([] : List Value)) (mid := [.int .i64 x.arity]) (post := ([Sl.val x.masks] ++ [Sl.val x.rows] : List Value)) (by simp [GRel.enc]) (by simp [length_arr, length_arrS, Answer.length_enc, GOp.length_enc, Store.length_enc]) (by simp [length_arr, length_arrS, Answer.length_enc, GOp.length_enc, Store.length_enc])]
  simp [GRel.enc]
theorem GRel.masks_get (x : GRel) : nth x.enc 1 = some (Sl.val x.masks) := get_of (pre := ([.int .i64 x.arity] : List Value)) (post := ([Sl.val x.rows] : List Value)) (by simp [GRel.enc]) (by simp [length_arr, length_arrS, Answer.length_enc, GOp.length_enc, Store.length_enc])
theorem GRel.masks_set (x : GRel) (y : Sl) : splice x.enc 1 ([Sl.val y]) = ({ x with masks := y } : GRel).enc := by
  rw [splice_of (pre := ([.int .i64 x.arity] : List Value)) (mid := [Sl.val x.masks]) (post := ([Sl.val x.rows] : List Value)) (by simp [GRel.enc]) (by simp [length_arr, length_arrS, Answer.length_enc, GOp.length_enc, Store.length_enc]) (by simp [length_arr, length_arrS, Answer.length_enc, GOp.length_enc, Store.length_enc])]
  simp [GRel.enc]
theorem GRel.rows_get (x : GRel) : nth x.enc 2 = some (Sl.val x.rows) := get_of (pre := ([.int .i64 x.arity] ++ [Sl.val x.masks] : List Value)) (post := ([] : List Value)) (by simp [GRel.enc]) (by simp [length_arr, length_arrS, Answer.length_enc, GOp.length_enc, Store.length_enc])
theorem GRel.rows_set (x : GRel) (y : Sl) : splice x.enc 2 ([Sl.val y]) = ({ x with rows := y } : GRel).enc := by
  rw [splice_of (pre := ([.int .i64 x.arity] ++ [Sl.val x.masks] : List Value)) (mid := [Sl.val x.rows]) (post := ([] : List Value)) (by simp [GRel.enc]) (by simp [length_arr, length_arrS, Answer.length_enc, GOp.length_enc, Store.length_enc]) (by simp [length_arr, length_arrS, Answer.length_enc, GOp.length_enc, Store.length_enc])]
  simp [GRel.enc]

structure Row where
  t : (Vector Int 4)
  mark : Int
def Row.zero : Row := ⟨(Vector.replicate 4 0), 0⟩
def Row.enc (x : Row) : List Value :=
  arr i64v x.t ++ ([.int .i64 x.mark])
theorem Row.length_enc (x : Row) : x.enc.length = 5 := by simp [Row.enc, length_arr, length_arrS, Answer.length_enc, GOp.length_enc, Store.length_enc, GRel.length_enc]
theorem Row.one_enc (x : Row) : x.enc.all (fun v => v.oneCell') = true := by simp only [Row.enc, List.all_append, List.all_cons, List.all_nil, oneC_int, oneC_bool, oneC_string, oneC_pointer, oneC_slice, Bool.and_true, Bool.true_and, implies_true, one_arr_u8, one_arr_u32, one_arr_u64, one_arr_i64, one_arr_bool, one_arr_str, one_arr_ptr, one_arr_sl, one_arrS, one_u8, one_u32, one_u64, one_i64, one_bool, one_str, one_sl, one_ptr, Answer.one_enc, GOp.one_enc, Store.one_enc, GRel.one_enc]
theorem Row.ok_enc (x : Row) : okCells 5 x.enc = true := ok_mk x.length_enc x.one_enc
theorem Row.all_get (x : Row) : seg x.enc 0 5 = x.enc := seg_all _ _ x.length_enc
theorem Row.all_set (x y : Row) : splice x.enc 0 y.enc = y.enc := splice_all _ _ (by rw [x.length_enc, y.length_enc])
theorem Row.t_get (x : Row) : seg x.enc 0 4 = arr i64v x.t := part_of (pre := ([] : List Value)) (post := ([.int .i64 x.mark] : List Value)) (by simp [Row.enc]) (by simp [length_arr, length_arrS, Answer.length_enc, GOp.length_enc, Store.length_enc, GRel.length_enc]) (by simp [length_arr, length_arrS, Answer.length_enc, GOp.length_enc, Store.length_enc, GRel.length_enc])
theorem Row.t_set (x : Row) (y : (Vector Int 4)) : splice x.enc 0 (arr i64v y) = ({ x with t := y } : Row).enc := by
  rw [splice_of (pre := ([] : List Value)) (mid := arr i64v x.t) (post := ([.int .i64 x.mark] : List Value)) (by simp [Row.enc]) (by simp [length_arr, length_arrS, Answer.length_enc, GOp.length_enc, Store.length_enc, GRel.length_enc]) (by simp [length_arr, length_arrS, Answer.length_enc, GOp.length_enc, Store.length_enc, GRel.length_enc])]
  simp [Row.enc]
theorem Row.t_at (x : Row) (i : Nat) (h : i < 4) : nth x.enc (0 + i) = some (.int .i64 x.t[i]) := by
  exact (get_sub (Row.t_get x) (by simp [length_arr, length_arrS, Answer.length_enc, GOp.length_enc, Store.length_enc, GRel.length_enc]; omega)).trans (arr_at _ _ h)
theorem Row.t_put (x : Row) (i : Nat) (y : Int) (h : i < 4) : splice x.enc (0 + i) [.int .i64 y] = ({ x with t := x.t.set i y h } : Row).enc := by
  rw [splice_sub (Row.t_get x) (by simp [Row.length_enc]) (by simp; omega)]
  rw [show ([.int .i64 y] : List Value) = [i64v y] from rfl, arr_put _ _ _ h, Row.t_set]
theorem Row.mark_get (x : Row) : nth x.enc 4 = some (.int .i64 x.mark) := get_of (pre := (arr i64v x.t : List Value)) (post := ([] : List Value)) (by simp [Row.enc]) (by simp [length_arr, length_arrS, Answer.length_enc, GOp.length_enc, Store.length_enc, GRel.length_enc])
theorem Row.mark_set (x : Row) (y : Int) : splice x.enc 4 ([.int .i64 y]) = ({ x with mark := y } : Row).enc := by
  rw [splice_of (pre := (arr i64v x.t : List Value)) (mid := [.int .i64 x.mark]) (post := ([] : List Value)) (by simp [Row.enc]) (by simp [length_arr, length_arrS, Answer.length_enc, GOp.length_enc, Store.length_enc, GRel.length_enc]) (by simp [length_arr, length_arrS, Answer.length_enc, GOp.length_enc, Store.length_enc, GRel.length_enc])]
  simp [Row.enc]

structure View where
  names : Sl
  rels : Sl
def View.zero : View := ⟨⟨none, 0, 0⟩, ⟨none, 0, 0⟩⟩
def View.enc (x : View) : List Value :=
  [Sl.val x.names] ++ ([Sl.val x.rels])
theorem View.length_enc (x : View) : x.enc.length = 2 := by simp [View.enc, length_arr, length_arrS, Answer.length_enc, GOp.length_enc, Store.length_enc, GRel.length_enc, Row.length_enc]
theorem View.one_enc (x : View) : x.enc.all (fun v => v.oneCell') = true := by simp only [View.enc, List.all_append, List.all_cons, List.all_nil, oneC_int, oneC_bool, oneC_string, oneC_pointer, oneC_slice, Bool.and_true, Bool.true_and, implies_true, one_arr_u8, one_arr_u32, one_arr_u64, one_arr_i64, one_arr_bool, one_arr_str, one_arr_ptr, one_arr_sl, one_arrS, one_u8, one_u32, one_u64, one_i64, one_bool, one_str, one_sl, one_ptr, Answer.one_enc, GOp.one_enc, Store.one_enc, GRel.one_enc, Row.one_enc]
theorem View.ok_enc (x : View) : okCells 2 x.enc = true := ok_mk x.length_enc x.one_enc
theorem View.all_get (x : View) : seg x.enc 0 2 = x.enc := seg_all _ _ x.length_enc
theorem View.all_set (x y : View) : splice x.enc 0 y.enc = y.enc := splice_all _ _ (by rw [x.length_enc, y.length_enc])
theorem View.names_get (x : View) : nth x.enc 0 = some (Sl.val x.names) := get_of (pre := ([] : List Value)) (post := ([Sl.val x.rels] : List Value)) (by simp [View.enc]) (by simp [length_arr, length_arrS, Answer.length_enc, GOp.length_enc, Store.length_enc, GRel.length_enc, Row.length_enc])
theorem View.names_set (x : View) (y : Sl) : splice x.enc 0 ([Sl.val y]) = ({ x with names := y } : View).enc := by
  rw [splice_of (pre := ([] : List Value)) (mid := [Sl.val x.names]) (post := ([Sl.val x.rels] : List Value)) (by simp [View.enc]) (by simp [length_arr, length_arrS, Answer.length_enc, GOp.length_enc, Store.length_enc, GRel.length_enc, Row.length_enc]) (by simp [length_arr, length_arrS, Answer.length_enc, GOp.length_enc, Store.length_enc, GRel.length_enc, Row.length_enc])]
  simp [View.enc]
theorem View.rels_get (x : View) : nth x.enc 1 = some (Sl.val x.rels) := get_of (pre := ([Sl.val x.names] : List Value)) (post := ([] : List Value)) (by simp [View.enc]) (by simp [length_arr, length_arrS, Answer.length_enc, GOp.length_enc, Store.length_enc, GRel.length_enc, Row.length_enc])
theorem View.rels_set (x : View) (y : Sl) : splice x.enc 1 ([Sl.val y]) = ({ x with rels := y } : View).enc := by
  rw [splice_of (pre := ([Sl.val x.names] : List Value)) (mid := [Sl.val x.rels]) (post := ([] : List Value)) (by simp [View.enc]) (by simp [length_arr, length_arrS, Answer.length_enc, GOp.length_enc, Store.length_enc, GRel.length_enc, Row.length_enc]) (by simp [length_arr, length_arrS, Answer.length_enc, GOp.length_enc, Store.length_enc, GRel.length_enc, Row.length_enc])]
  simp [View.enc]

structure Symtab where
  names : Sl
  table : Sl
def Symtab.zero : Symtab := ⟨⟨none, 0, 0⟩, ⟨none, 0, 0⟩⟩
def Symtab.enc (x : Symtab) : List Value :=
  [Sl.val x.names] ++ ([Sl.val x.table])
theorem Symtab.length_enc (x : Symtab) : x.enc.length = 2 := by simp [Symtab.enc, length_arr, length_arrS, Answer.length_enc, GOp.length_enc, Store.length_enc, GRel.length_enc, Row.length_enc, View.length_enc]
theorem Symtab.one_enc (x : Symtab) : x.enc.all (fun v => v.oneCell') = true := by simp only [Symtab.enc, List.all_append, List.all_cons, List.all_nil, oneC_int, oneC_bool, oneC_string, oneC_pointer, oneC_slice, Bool.and_true, Bool.true_and, implies_true, one_arr_u8, one_arr_u32, one_arr_u64, one_arr_i64, one_arr_bool, one_arr_str, one_arr_ptr, one_arr_sl, one_arrS, one_u8, one_u32, one_u64, one_i64, one_bool, one_str, one_sl, one_ptr, Answer.one_enc, GOp.one_enc, Store.one_enc, GRel.one_enc, Row.one_enc, View.one_enc]
theorem Symtab.ok_enc (x : Symtab) : okCells 2 x.enc = true := ok_mk x.length_enc x.one_enc
theorem Symtab.all_get (x : Symtab) : seg x.enc 0 2 = x.enc := seg_all _ _ x.length_enc
theorem Symtab.all_set (x y : Symtab) : splice x.enc 0 y.enc = y.enc := splice_all _ _ (by rw [x.length_enc, y.length_enc])
theorem Symtab.names_get (x : Symtab) : nth x.enc 0 = some (Sl.val x.names) := get_of (pre := ([] : List Value)) (post := ([Sl.val x.table] : List Value)) (by simp [Symtab.enc]) (by simp [length_arr, length_arrS, Answer.length_enc, GOp.length_enc, Store.length_enc, GRel.length_enc, Row.length_enc, View.length_enc])
theorem Symtab.names_set (x : Symtab) (y : Sl) : splice x.enc 0 ([Sl.val y]) = ({ x with names := y } : Symtab).enc := by
  rw [splice_of (pre := ([] : List Value)) (mid := [Sl.val x.names]) (post := ([Sl.val x.table] : List Value)) (by simp [Symtab.enc]) (by simp [length_arr, length_arrS, Answer.length_enc, GOp.length_enc, Store.length_enc, GRel.length_enc, Row.length_enc, View.length_enc]) (by simp [length_arr, length_arrS, Answer.length_enc, GOp.length_enc, Store.length_enc, GRel.length_enc, Row.length_enc, View.length_enc])]
  simp [Symtab.enc]
theorem Symtab.table_get (x : Symtab) : nth x.enc 1 = some (Sl.val x.table) := get_of (pre := ([Sl.val x.names] : List Value)) (post := ([] : List Value)) (by simp [Symtab.enc]) (by simp [length_arr, length_arrS, Answer.length_enc, GOp.length_enc, Store.length_enc, GRel.length_enc, Row.length_enc, View.length_enc])
theorem Symtab.table_set (x : Symtab) (y : Sl) : splice x.enc 1 ([Sl.val y]) = ({ x with table := y } : Symtab).enc := by
  rw [splice_of (pre := ([Sl.val x.names] : List Value)) (mid := [Sl.val x.table]) (post := ([] : List Value)) (by simp [Symtab.enc]) (by simp [length_arr, length_arrS, Answer.length_enc, GOp.length_enc, Store.length_enc, GRel.length_enc, Row.length_enc, View.length_enc]) (by simp [length_arr, length_arrS, Answer.length_enc, GOp.length_enc, Store.length_enc, GRel.length_enc, Row.length_enc, View.length_enc])]
  simp [Symtab.enc]

structure StoreTuplestore where
  syms : Symtab
  rels : Sl
def StoreTuplestore.zero : StoreTuplestore := ⟨Symtab.zero, ⟨none, 0, 0⟩⟩
def StoreTuplestore.enc (x : StoreTuplestore) : List Value :=
  Symtab.enc x.syms ++ ([Sl.val x.rels])
theorem StoreTuplestore.length_enc (x : StoreTuplestore) : x.enc.length = 3 := by simp [StoreTuplestore.enc, length_arr, length_arrS, Answer.length_enc, GOp.length_enc, Store.length_enc, GRel.length_enc, Row.length_enc, View.length_enc, Symtab.length_enc]
theorem StoreTuplestore.one_enc (x : StoreTuplestore) : x.enc.all (fun v => v.oneCell') = true := by simp only [StoreTuplestore.enc, List.all_append, List.all_cons, List.all_nil, oneC_int, oneC_bool, oneC_string, oneC_pointer, oneC_slice, Bool.and_true, Bool.true_and, implies_true, one_arr_u8, one_arr_u32, one_arr_u64, one_arr_i64, one_arr_bool, one_arr_str, one_arr_ptr, one_arr_sl, one_arrS, one_u8, one_u32, one_u64, one_i64, one_bool, one_str, one_sl, one_ptr, Answer.one_enc, GOp.one_enc, Store.one_enc, GRel.one_enc, Row.one_enc, View.one_enc, Symtab.one_enc]
theorem StoreTuplestore.ok_enc (x : StoreTuplestore) : okCells 3 x.enc = true := ok_mk x.length_enc x.one_enc
theorem StoreTuplestore.all_get (x : StoreTuplestore) : seg x.enc 0 3 = x.enc := seg_all _ _ x.length_enc
theorem StoreTuplestore.all_set (x y : StoreTuplestore) : splice x.enc 0 y.enc = y.enc := splice_all _ _ (by rw [x.length_enc, y.length_enc])
theorem StoreTuplestore.syms_get (x : StoreTuplestore) : seg x.enc 0 2 = Symtab.enc x.syms := part_of (pre := ([] : List Value)) (post := ([Sl.val x.rels] : List Value)) (by simp [StoreTuplestore.enc]) (by simp [length_arr, length_arrS, Answer.length_enc, GOp.length_enc, Store.length_enc, GRel.length_enc, Row.length_enc, View.length_enc, Symtab.length_enc]) (by simp [length_arr, length_arrS, Answer.length_enc, GOp.length_enc, Store.length_enc, GRel.length_enc, Row.length_enc, View.length_enc, Symtab.length_enc])
theorem StoreTuplestore.syms_set (x : StoreTuplestore) (y : Symtab) : splice x.enc 0 (Symtab.enc y) = ({ x with syms := y } : StoreTuplestore).enc := by
  rw [splice_of (pre := ([] : List Value)) (mid := Symtab.enc x.syms) (post := ([Sl.val x.rels] : List Value)) (by simp [StoreTuplestore.enc]) (by simp [length_arr, length_arrS, Answer.length_enc, GOp.length_enc, Store.length_enc, GRel.length_enc, Row.length_enc, View.length_enc, Symtab.length_enc]) (by simp [length_arr, length_arrS, Answer.length_enc, GOp.length_enc, Store.length_enc, GRel.length_enc, Row.length_enc, View.length_enc, Symtab.length_enc])]
  simp [StoreTuplestore.enc]
theorem StoreTuplestore.rels_get (x : StoreTuplestore) : nth x.enc 2 = some (Sl.val x.rels) := get_of (pre := (Symtab.enc x.syms : List Value)) (post := ([] : List Value)) (by simp [StoreTuplestore.enc]) (by simp [length_arr, length_arrS, Answer.length_enc, GOp.length_enc, Store.length_enc, GRel.length_enc, Row.length_enc, View.length_enc, Symtab.length_enc])
theorem StoreTuplestore.rels_set (x : StoreTuplestore) (y : Sl) : splice x.enc 2 ([Sl.val y]) = ({ x with rels := y } : StoreTuplestore).enc := by
  rw [splice_of (pre := (Symtab.enc x.syms : List Value)) (mid := [Sl.val x.rels]) (post := ([] : List Value)) (by simp [StoreTuplestore.enc]) (by simp [length_arr, length_arrS, Answer.length_enc, GOp.length_enc, Store.length_enc, GRel.length_enc, Row.length_enc, View.length_enc, Symtab.length_enc]) (by simp [length_arr, length_arrS, Answer.length_enc, GOp.length_enc, Store.length_enc, GRel.length_enc, Row.length_enc, View.length_enc, Symtab.length_enc])]
  simp [StoreTuplestore.enc]
theorem StoreTuplestore.syms_names_get (x : StoreTuplestore) : nth x.enc 0 = some (Sl.val x.syms.names) :=
  (get_sub (a := 0) (j := 0) (StoreTuplestore.syms_get x) (by simp [Symtab.length_enc])).trans (Symtab.names_get _)
theorem StoreTuplestore.syms_names_set (x : StoreTuplestore) (y : Sl) : splice x.enc 0 ([Sl.val y]) = ({ x with syms := { x.syms with names := y } } : StoreTuplestore).enc := by
  rw [show 0 = 0 + 0 from rfl, splice_sub (StoreTuplestore.syms_get x) (by simp [StoreTuplestore.length_enc]) (by simp [length_arr, length_arrS, Answer.length_enc, GOp.length_enc, Store.length_enc, GRel.length_enc, Row.length_enc, View.length_enc, Symtab.length_enc]), Symtab.names_set, StoreTuplestore.syms_set]
theorem StoreTuplestore.syms_table_get (x : StoreTuplestore) : nth x.enc 1 = some (Sl.val x.syms.table) :=
  (get_sub (a := 0) (j := 1) (StoreTuplestore.syms_get x) (by simp [Symtab.length_enc])).trans (Symtab.table_get _)
theorem StoreTuplestore.syms_table_set (x : StoreTuplestore) (y : Sl) : splice x.enc 1 ([Sl.val y]) = ({ x with syms := { x.syms with table := y } } : StoreTuplestore).enc := by
  rw [show 1 = 0 + 1 from rfl, splice_sub (StoreTuplestore.syms_get x) (by simp [StoreTuplestore.length_enc]) (by simp [length_arr, length_arrS, Answer.length_enc, GOp.length_enc, Store.length_enc, GRel.length_enc, Row.length_enc, View.length_enc, Symtab.length_enc]), Symtab.table_set, StoreTuplestore.syms_set]

structure Relation where
  arity : Int
  slots : Sl
  live : Int
  idx : Sl
def Relation.zero : Relation := ⟨0, ⟨none, 0, 0⟩, 0, ⟨none, 0, 0⟩⟩
def Relation.enc (x : Relation) : List Value :=
  [.int .i64 x.arity] ++ ([Sl.val x.slots] ++ ([.int .i64 x.live] ++ ([Sl.val x.idx])))
theorem Relation.length_enc (x : Relation) : x.enc.length = 4 := by simp [Relation.enc, length_arr, length_arrS, Answer.length_enc, GOp.length_enc, Store.length_enc, GRel.length_enc, Row.length_enc, View.length_enc, Symtab.length_enc, StoreTuplestore.length_enc]
theorem Relation.one_enc (x : Relation) : x.enc.all (fun v => v.oneCell') = true := by simp only [Relation.enc, List.all_append, List.all_cons, List.all_nil, oneC_int, oneC_bool, oneC_string, oneC_pointer, oneC_slice, Bool.and_true, Bool.true_and, implies_true, one_arr_u8, one_arr_u32, one_arr_u64, one_arr_i64, one_arr_bool, one_arr_str, one_arr_ptr, one_arr_sl, one_arrS, one_u8, one_u32, one_u64, one_i64, one_bool, one_str, one_sl, one_ptr, Answer.one_enc, GOp.one_enc, Store.one_enc, GRel.one_enc, Row.one_enc, View.one_enc, Symtab.one_enc, StoreTuplestore.one_enc]
theorem Relation.ok_enc (x : Relation) : okCells 4 x.enc = true := ok_mk x.length_enc x.one_enc
theorem Relation.all_get (x : Relation) : seg x.enc 0 4 = x.enc := seg_all _ _ x.length_enc
theorem Relation.all_set (x y : Relation) : splice x.enc 0 y.enc = y.enc := splice_all _ _ (by rw [x.length_enc, y.length_enc])
theorem Relation.arity_get (x : Relation) : nth x.enc 0 = some (.int .i64 x.arity) := get_of (pre := ([] : List Value)) (post := ([Sl.val x.slots] ++ [.int .i64 x.live] ++ [Sl.val x.idx] : List Value)) (by simp [Relation.enc]) (by simp [length_arr, length_arrS, Answer.length_enc, GOp.length_enc, Store.length_enc, GRel.length_enc, Row.length_enc, View.length_enc, Symtab.length_enc, StoreTuplestore.length_enc])
theorem Relation.arity_set (x : Relation) (y : Int) : splice x.enc 0 ([.int .i64 y]) = ({ x with arity := y } : Relation).enc := by
  rw [splice_of (pre := ([] : List Value)) (mid := [.int .i64 x.arity]) (post := ([Sl.val x.slots] ++ [.int .i64 x.live] ++ [Sl.val x.idx] : List Value)) (by simp [Relation.enc]) (by simp [length_arr, length_arrS, Answer.length_enc, GOp.length_enc, Store.length_enc, GRel.length_enc, Row.length_enc, View.length_enc, Symtab.length_enc, StoreTuplestore.length_enc]) (by simp [length_arr, length_arrS, Answer.length_enc, GOp.length_enc, Store.length_enc, GRel.length_enc, Row.length_enc, View.length_enc, Symtab.length_enc, StoreTuplestore.length_enc])]
  simp [Relation.enc]
theorem Relation.slots_get (x : Relation) : nth x.enc 1 = some (Sl.val x.slots) := get_of (pre := ([.int .i64 x.arity] : List Value)) (post := ([.int .i64 x.live] ++ [Sl.val x.idx] : List Value)) (by simp [Relation.enc]) (by simp [length_arr, length_arrS, Answer.length_enc, GOp.length_enc, Store.length_enc, GRel.length_enc, Row.length_enc, View.length_enc, Symtab.length_enc, StoreTuplestore.length_enc])
theorem Relation.slots_set (x : Relation) (y : Sl) : splice x.enc 1 ([Sl.val y]) = ({ x with slots := y } : Relation).enc := by
  rw [splice_of (pre := ([.int .i64 x.arity] : List Value)) (mid := [Sl.val x.slots]) (post := ([.int .i64 x.live] ++ [Sl.val x.idx] : List Value)) (by simp [Relation.enc]) (by simp [length_arr, length_arrS, Answer.length_enc, GOp.length_enc, Store.length_enc, GRel.length_enc, Row.length_enc, View.length_enc, Symtab.length_enc, StoreTuplestore.length_enc]) (by simp [length_arr, length_arrS, Answer.length_enc, GOp.length_enc, Store.length_enc, GRel.length_enc, Row.length_enc, View.length_enc, Symtab.length_enc, StoreTuplestore.length_enc])]
  simp [Relation.enc]
theorem Relation.live_get (x : Relation) : nth x.enc 2 = some (.int .i64 x.live) := get_of (pre := ([.int .i64 x.arity] ++ [Sl.val x.slots] : List Value)) (post := ([Sl.val x.idx] : List Value)) (by simp [Relation.enc]) (by simp [length_arr, length_arrS, Answer.length_enc, GOp.length_enc, Store.length_enc, GRel.length_enc, Row.length_enc, View.length_enc, Symtab.length_enc, StoreTuplestore.length_enc])
theorem Relation.live_set (x : Relation) (y : Int) : splice x.enc 2 ([.int .i64 y]) = ({ x with live := y } : Relation).enc := by
  rw [splice_of (pre := ([.int .i64 x.arity] ++ [Sl.val x.slots] : List Value)) (mid := [.int .i64 x.live]) (post := ([Sl.val x.idx] : List Value)) (by simp [Relation.enc]) (by simp [length_arr, length_arrS, Answer.length_enc, GOp.length_enc, Store.length_enc, GRel.length_enc, Row.length_enc, View.length_enc, Symtab.length_enc, StoreTuplestore.length_enc]) (by simp [length_arr, length_arrS, Answer.length_enc, GOp.length_enc, Store.length_enc, GRel.length_enc, Row.length_enc, View.length_enc, Symtab.length_enc, StoreTuplestore.length_enc])]
  simp [Relation.enc]
theorem Relation.idx_get (x : Relation) : nth x.enc 3 = some (Sl.val x.idx) := get_of (pre := ([.int .i64 x.arity] ++ [Sl.val x.slots] ++ [.int .i64 x.live] : List Value)) (post := ([] : List Value)) (by simp [Relation.enc]) (by simp [length_arr, length_arrS, Answer.length_enc, GOp.length_enc, Store.length_enc, GRel.length_enc, Row.length_enc, View.length_enc, Symtab.length_enc, StoreTuplestore.length_enc])
theorem Relation.idx_set (x : Relation) (y : Sl) : splice x.enc 3 ([Sl.val y]) = ({ x with idx := y } : Relation).enc := by
  rw [splice_of (pre := ([.int .i64 x.arity] ++ [Sl.val x.slots] ++ [.int .i64 x.live] : List Value)) (mid := [Sl.val x.idx]) (post := ([] : List Value)) (by simp [Relation.enc]) (by simp [length_arr, length_arrS, Answer.length_enc, GOp.length_enc, Store.length_enc, GRel.length_enc, Row.length_enc, View.length_enc, Symtab.length_enc, StoreTuplestore.length_enc]) (by simp [length_arr, length_arrS, Answer.length_enc, GOp.length_enc, Store.length_enc, GRel.length_enc, Row.length_enc, View.length_enc, Symtab.length_enc, StoreTuplestore.length_enc])]
  simp [Relation.enc]

structure Slot where
  t : (Vector Int 4)
  mark : Int
  live : Bool
def Slot.zero : Slot := ⟨(Vector.replicate 4 0), 0, false⟩
def Slot.enc (x : Slot) : List Value :=
  arr i64v x.t ++ ([.int .i64 x.mark] ++ ([.bool x.live]))
theorem Slot.length_enc (x : Slot) : x.enc.length = 6 := by simp [Slot.enc, length_arr, length_arrS, Answer.length_enc, GOp.length_enc, Store.length_enc, GRel.length_enc, Row.length_enc, View.length_enc, Symtab.length_enc, StoreTuplestore.length_enc, Relation.length_enc]
theorem Slot.one_enc (x : Slot) : x.enc.all (fun v => v.oneCell') = true := by simp only [Slot.enc, List.all_append, List.all_cons, List.all_nil, oneC_int, oneC_bool, oneC_string, oneC_pointer, oneC_slice, Bool.and_true, Bool.true_and, implies_true, one_arr_u8, one_arr_u32, one_arr_u64, one_arr_i64, one_arr_bool, one_arr_str, one_arr_ptr, one_arr_sl, one_arrS, one_u8, one_u32, one_u64, one_i64, one_bool, one_str, one_sl, one_ptr, Answer.one_enc, GOp.one_enc, Store.one_enc, GRel.one_enc, Row.one_enc, View.one_enc, Symtab.one_enc, StoreTuplestore.one_enc, Relation.one_enc]
theorem Slot.ok_enc (x : Slot) : okCells 6 x.enc = true := ok_mk x.length_enc x.one_enc
theorem Slot.all_get (x : Slot) : seg x.enc 0 6 = x.enc := seg_all _ _ x.length_enc
theorem Slot.all_set (x y : Slot) : splice x.enc 0 y.enc = y.enc := splice_all _ _ (by rw [x.length_enc, y.length_enc])
theorem Slot.t_get (x : Slot) : seg x.enc 0 4 = arr i64v x.t := part_of (pre := ([] : List Value)) (post := ([.int .i64 x.mark] ++ [.bool x.live] : List Value)) (by simp [Slot.enc]) (by simp [length_arr, length_arrS, Answer.length_enc, GOp.length_enc, Store.length_enc, GRel.length_enc, Row.length_enc, View.length_enc, Symtab.length_enc, StoreTuplestore.length_enc, Relation.length_enc]) (by simp [length_arr, length_arrS, Answer.length_enc, GOp.length_enc, Store.length_enc, GRel.length_enc, Row.length_enc, View.length_enc, Symtab.length_enc, StoreTuplestore.length_enc, Relation.length_enc])
theorem Slot.t_set (x : Slot) (y : (Vector Int 4)) : splice x.enc 0 (arr i64v y) = ({ x with t := y } : Slot).enc := by
  rw [splice_of (pre := ([] : List Value)) (mid := arr i64v x.t) (post := ([.int .i64 x.mark] ++ [.bool x.live] : List Value)) (by simp [Slot.enc]) (by simp [length_arr, length_arrS, Answer.length_enc, GOp.length_enc, Store.length_enc, GRel.length_enc, Row.length_enc, View.length_enc, Symtab.length_enc, StoreTuplestore.length_enc, Relation.length_enc]) (by simp [length_arr, length_arrS, Answer.length_enc, GOp.length_enc, Store.length_enc, GRel.length_enc, Row.length_enc, View.length_enc, Symtab.length_enc, StoreTuplestore.length_enc, Relation.length_enc])]
  simp [Slot.enc]
theorem Slot.t_at (x : Slot) (i : Nat) (h : i < 4) : nth x.enc (0 + i) = some (.int .i64 x.t[i]) := by
  exact (get_sub (Slot.t_get x) (by simp [length_arr, length_arrS, Answer.length_enc, GOp.length_enc, Store.length_enc, GRel.length_enc, Row.length_enc, View.length_enc, Symtab.length_enc, StoreTuplestore.length_enc, Relation.length_enc]; omega)).trans (arr_at _ _ h)
theorem Slot.t_put (x : Slot) (i : Nat) (y : Int) (h : i < 4) : splice x.enc (0 + i) [.int .i64 y] = ({ x with t := x.t.set i y h } : Slot).enc := by
  rw [splice_sub (Slot.t_get x) (by simp [Slot.length_enc]) (by simp; omega)]
  rw [show ([.int .i64 y] : List Value) = [i64v y] from rfl, arr_put _ _ _ h, Slot.t_set]
theorem Slot.mark_get (x : Slot) : nth x.enc 4 = some (.int .i64 x.mark) := get_of (pre := (arr i64v x.t : List Value)) (post := ([.bool x.live] : List Value)) (by simp [Slot.enc]) (by simp [length_arr, length_arrS, Answer.length_enc, GOp.length_enc, Store.length_enc, GRel.length_enc, Row.length_enc, View.length_enc, Symtab.length_enc, StoreTuplestore.length_enc, Relation.length_enc])
theorem Slot.mark_set (x : Slot) (y : Int) : splice x.enc 4 ([.int .i64 y]) = ({ x with mark := y } : Slot).enc := by
  rw [splice_of (pre := (arr i64v x.t : List Value)) (mid := [.int .i64 x.mark]) (post := ([.bool x.live] : List Value)) (by simp [Slot.enc]) (by simp [length_arr, length_arrS, Answer.length_enc, GOp.length_enc, Store.length_enc, GRel.length_enc, Row.length_enc, View.length_enc, Symtab.length_enc, StoreTuplestore.length_enc, Relation.length_enc]) (by simp [length_arr, length_arrS, Answer.length_enc, GOp.length_enc, Store.length_enc, GRel.length_enc, Row.length_enc, View.length_enc, Symtab.length_enc, StoreTuplestore.length_enc, Relation.length_enc])]
  simp [Slot.enc]
theorem Slot.live_get (x : Slot) : nth x.enc 5 = some (.bool x.live) := get_of (pre := (arr i64v x.t ++ [.int .i64 x.mark] : List Value)) (post := ([] : List Value)) (by simp [Slot.enc]) (by simp [length_arr, length_arrS, Answer.length_enc, GOp.length_enc, Store.length_enc, GRel.length_enc, Row.length_enc, View.length_enc, Symtab.length_enc, StoreTuplestore.length_enc, Relation.length_enc])
theorem Slot.live_set (x : Slot) (y : Bool) : splice x.enc 5 ([.bool y]) = ({ x with live := y } : Slot).enc := by
  rw [splice_of (pre := (arr i64v x.t ++ [.int .i64 x.mark] : List Value)) (mid := [.bool x.live]) (post := ([] : List Value)) (by simp [Slot.enc]) (by simp [length_arr, length_arrS, Answer.length_enc, GOp.length_enc, Store.length_enc, GRel.length_enc, Row.length_enc, View.length_enc, Symtab.length_enc, StoreTuplestore.length_enc, Relation.length_enc]) (by simp [length_arr, length_arrS, Answer.length_enc, GOp.length_enc, Store.length_enc, GRel.length_enc, Row.length_enc, View.length_enc, Symtab.length_enc, StoreTuplestore.length_enc, Relation.length_enc])]
  simp [Slot.enc]

structure RelView where
  arity : Int
  rows : Sl
  marks : Sl
  indexed : Sl
def RelView.zero : RelView := ⟨0, ⟨none, 0, 0⟩, ⟨none, 0, 0⟩, ⟨none, 0, 0⟩⟩
def RelView.enc (x : RelView) : List Value :=
  [.int .i64 x.arity] ++ ([Sl.val x.rows] ++ ([Sl.val x.marks] ++ ([Sl.val x.indexed])))
theorem RelView.length_enc (x : RelView) : x.enc.length = 4 := by simp [RelView.enc, length_arr, length_arrS, Answer.length_enc, GOp.length_enc, Store.length_enc, GRel.length_enc, Row.length_enc, View.length_enc, Symtab.length_enc, StoreTuplestore.length_enc, Relation.length_enc, Slot.length_enc]
theorem RelView.one_enc (x : RelView) : x.enc.all (fun v => v.oneCell') = true := by simp only [RelView.enc, List.all_append, List.all_cons, List.all_nil, oneC_int, oneC_bool, oneC_string, oneC_pointer, oneC_slice, Bool.and_true, Bool.true_and, implies_true, one_arr_u8, one_arr_u32, one_arr_u64, one_arr_i64, one_arr_bool, one_arr_str, one_arr_ptr, one_arr_sl, one_arrS, one_u8, one_u32, one_u64, one_i64, one_bool, one_str, one_sl, one_ptr, Answer.one_enc, GOp.one_enc, Store.one_enc, GRel.one_enc, Row.one_enc, View.one_enc, Symtab.one_enc, StoreTuplestore.one_enc, Relation.one_enc, Slot.one_enc]
theorem RelView.ok_enc (x : RelView) : okCells 4 x.enc = true := ok_mk x.length_enc x.one_enc
theorem RelView.all_get (x : RelView) : seg x.enc 0 4 = x.enc := seg_all _ _ x.length_enc
theorem RelView.all_set (x y : RelView) : splice x.enc 0 y.enc = y.enc := splice_all _ _ (by rw [x.length_enc, y.length_enc])
theorem RelView.arity_get (x : RelView) : nth x.enc 0 = some (.int .i64 x.arity) := get_of (pre := ([] : List Value)) (post := ([Sl.val x.rows] ++ [Sl.val x.marks] ++ [Sl.val x.indexed] : List Value)) (by simp [RelView.enc]) (by simp [length_arr, length_arrS, Answer.length_enc, GOp.length_enc, Store.length_enc, GRel.length_enc, Row.length_enc, View.length_enc, Symtab.length_enc, StoreTuplestore.length_enc, Relation.length_enc, Slot.length_enc])
theorem RelView.arity_set (x : RelView) (y : Int) : splice x.enc 0 ([.int .i64 y]) = ({ x with arity := y } : RelView).enc := by
  rw [splice_of (pre := ([] : List Value)) (mid := [.int .i64 x.arity]) (post := ([Sl.val x.rows] ++ [Sl.val x.marks] ++ [Sl.val x.indexed] : List Value)) (by simp [RelView.enc]) (by simp [length_arr, length_arrS, Answer.length_enc, GOp.length_enc, Store.length_enc, GRel.length_enc, Row.length_enc, View.length_enc, Symtab.length_enc, StoreTuplestore.length_enc, Relation.length_enc, Slot.length_enc]) (by simp [length_arr, length_arrS, Answer.length_enc, GOp.length_enc, Store.length_enc, GRel.length_enc, Row.length_enc, View.length_enc, Symtab.length_enc, StoreTuplestore.length_enc, Relation.length_enc, Slot.length_enc])]
  simp [RelView.enc]
theorem RelView.rows_get (x : RelView) : nth x.enc 1 = some (Sl.val x.rows) := get_of (pre := ([.int .i64 x.arity] : List Value)) (post := ([Sl.val x.marks] ++ [Sl.val x.indexed] : List Value)) (by simp [RelView.enc]) (by simp [length_arr, length_arrS, Answer.length_enc, GOp.length_enc, Store.length_enc, GRel.length_enc, Row.length_enc, View.length_enc, Symtab.length_enc, StoreTuplestore.length_enc, Relation.length_enc, Slot.length_enc])
theorem RelView.rows_set (x : RelView) (y : Sl) : splice x.enc 1 ([Sl.val y]) = ({ x with rows := y } : RelView).enc := by
  rw [splice_of (pre := ([.int .i64 x.arity] : List Value)) (mid := [Sl.val x.rows]) (post := ([Sl.val x.marks] ++ [Sl.val x.indexed] : List Value)) (by simp [RelView.enc]) (by simp [length_arr, length_arrS, Answer.length_enc, GOp.length_enc, Store.length_enc, GRel.length_enc, Row.length_enc, View.length_enc, Symtab.length_enc, StoreTuplestore.length_enc, Relation.length_enc, Slot.length_enc]) (by simp [length_arr, length_arrS, Answer.length_enc, GOp.length_enc, Store.length_enc, GRel.length_enc, Row.length_enc, View.length_enc, Symtab.length_enc, StoreTuplestore.length_enc, Relation.length_enc, Slot.length_enc])]
  simp [RelView.enc]
theorem RelView.marks_get (x : RelView) : nth x.enc 2 = some (Sl.val x.marks) := get_of (pre := ([.int .i64 x.arity] ++ [Sl.val x.rows] : List Value)) (post := ([Sl.val x.indexed] : List Value)) (by simp [RelView.enc]) (by simp [length_arr, length_arrS, Answer.length_enc, GOp.length_enc, Store.length_enc, GRel.length_enc, Row.length_enc, View.length_enc, Symtab.length_enc, StoreTuplestore.length_enc, Relation.length_enc, Slot.length_enc])
theorem RelView.marks_set (x : RelView) (y : Sl) : splice x.enc 2 ([Sl.val y]) = ({ x with marks := y } : RelView).enc := by
  rw [splice_of (pre := ([.int .i64 x.arity] ++ [Sl.val x.rows] : List Value)) (mid := [Sl.val x.marks]) (post := ([Sl.val x.indexed] : List Value)) (by simp [RelView.enc]) (by simp [length_arr, length_arrS, Answer.length_enc, GOp.length_enc, Store.length_enc, GRel.length_enc, Row.length_enc, View.length_enc, Symtab.length_enc, StoreTuplestore.length_enc, Relation.length_enc, Slot.length_enc]) (by simp [length_arr, length_arrS, Answer.length_enc, GOp.length_enc, Store.length_enc, GRel.length_enc, Row.length_enc, View.length_enc, Symtab.length_enc, StoreTuplestore.length_enc, Relation.length_enc, Slot.length_enc])]
  simp [RelView.enc]
theorem RelView.indexed_get (x : RelView) : nth x.enc 3 = some (Sl.val x.indexed) := get_of (pre := ([.int .i64 x.arity] ++ [Sl.val x.rows] ++ [Sl.val x.marks] : List Value)) (post := ([] : List Value)) (by simp [RelView.enc]) (by simp [length_arr, length_arrS, Answer.length_enc, GOp.length_enc, Store.length_enc, GRel.length_enc, Row.length_enc, View.length_enc, Symtab.length_enc, StoreTuplestore.length_enc, Relation.length_enc, Slot.length_enc])
theorem RelView.indexed_set (x : RelView) (y : Sl) : splice x.enc 3 ([Sl.val y]) = ({ x with indexed := y } : RelView).enc := by
  rw [splice_of (pre := ([.int .i64 x.arity] ++ [Sl.val x.rows] ++ [Sl.val x.marks] : List Value)) (mid := [Sl.val x.indexed]) (post := ([] : List Value)) (by simp [RelView.enc]) (by simp [length_arr, length_arrS, Answer.length_enc, GOp.length_enc, Store.length_enc, GRel.length_enc, Row.length_enc, View.length_enc, Symtab.length_enc, StoreTuplestore.length_enc, Relation.length_enc, Slot.length_enc]) (by simp [length_arr, length_arrS, Answer.length_enc, GOp.length_enc, Store.length_enc, GRel.length_enc, Row.length_enc, View.length_enc, Symtab.length_enc, StoreTuplestore.length_enc, Relation.length_enc, Slot.length_enc])]
  simp [RelView.enc]

structure Index where
  mask : Int
  heads : Sl
  next : Sl
def Index.zero : Index := ⟨0, ⟨none, 0, 0⟩, ⟨none, 0, 0⟩⟩
def Index.enc (x : Index) : List Value :=
  [.int .i64 x.mask] ++ ([Sl.val x.heads] ++ ([Sl.val x.next]))
theorem Index.length_enc (x : Index) : x.enc.length = 3 := by simp [Index.enc, length_arr, length_arrS, Answer.length_enc, GOp.length_enc, Store.length_enc, GRel.length_enc, Row.length_enc, View.length_enc, Symtab.length_enc, StoreTuplestore.length_enc, Relation.length_enc, Slot.length_enc, RelView.length_enc]
theorem Index.one_enc (x : Index) : x.enc.all (fun v => v.oneCell') = true := by simp only [Index.enc, List.all_append, List.all_cons, List.all_nil, oneC_int, oneC_bool, oneC_string, oneC_pointer, oneC_slice, Bool.and_true, Bool.true_and, implies_true, one_arr_u8, one_arr_u32, one_arr_u64, one_arr_i64, one_arr_bool, one_arr_str, one_arr_ptr, one_arr_sl, one_arrS, one_u8, one_u32, one_u64, one_i64, one_bool, one_str, one_sl, one_ptr, Answer.one_enc, GOp.one_enc, Store.one_enc, GRel.one_enc, Row.one_enc, View.one_enc, Symtab.one_enc, StoreTuplestore.one_enc, Relation.one_enc, Slot.one_enc, RelView.one_enc]
theorem Index.ok_enc (x : Index) : okCells 3 x.enc = true := ok_mk x.length_enc x.one_enc
theorem Index.all_get (x : Index) : seg x.enc 0 3 = x.enc := seg_all _ _ x.length_enc
theorem Index.all_set (x y : Index) : splice x.enc 0 y.enc = y.enc := splice_all _ _ (by rw [x.length_enc, y.length_enc])
theorem Index.mask_get (x : Index) : nth x.enc 0 = some (.int .i64 x.mask) := get_of (pre := ([] : List Value)) (post := ([Sl.val x.heads] ++ [Sl.val x.next] : List Value)) (by simp [Index.enc]) (by simp [length_arr, length_arrS, Answer.length_enc, GOp.length_enc, Store.length_enc, GRel.length_enc, Row.length_enc, View.length_enc, Symtab.length_enc, StoreTuplestore.length_enc, Relation.length_enc, Slot.length_enc, RelView.length_enc])
theorem Index.mask_set (x : Index) (y : Int) : splice x.enc 0 ([.int .i64 y]) = ({ x with mask := y } : Index).enc := by
  rw [splice_of (pre := ([] : List Value)) (mid := [.int .i64 x.mask]) (post := ([Sl.val x.heads] ++ [Sl.val x.next] : List Value)) (by simp [Index.enc]) (by simp [length_arr, length_arrS, Answer.length_enc, GOp.length_enc, Store.length_enc, GRel.length_enc, Row.length_enc, View.length_enc, Symtab.length_enc, StoreTuplestore.length_enc, Relation.length_enc, Slot.length_enc, RelView.length_enc]) (by simp [length_arr, length_arrS, Answer.length_enc, GOp.length_enc, Store.length_enc, GRel.length_enc, Row.length_enc, View.length_enc, Symtab.length_enc, StoreTuplestore.length_enc, Relation.length_enc, Slot.length_enc, RelView.length_enc])]
  simp [Index.enc]
theorem Index.heads_get (x : Index) : nth x.enc 1 = some (Sl.val x.heads) := get_of (pre := ([.int .i64 x.mask] : List Value)) (post := ([Sl.val x.next] : List Value)) (by simp [Index.enc]) (by simp [length_arr, length_arrS, Answer.length_enc, GOp.length_enc, Store.length_enc, GRel.length_enc, Row.length_enc, View.length_enc, Symtab.length_enc, StoreTuplestore.length_enc, Relation.length_enc, Slot.length_enc, RelView.length_enc])
theorem Index.heads_set (x : Index) (y : Sl) : splice x.enc 1 ([Sl.val y]) = ({ x with heads := y } : Index).enc := by
  rw [splice_of (pre := ([.int .i64 x.mask] : List Value)) (mid := [Sl.val x.heads]) (post := ([Sl.val x.next] : List Value)) (by simp [Index.enc]) (by simp [length_arr, length_arrS, Answer.length_enc, GOp.length_enc, Store.length_enc, GRel.length_enc, Row.length_enc, View.length_enc, Symtab.length_enc, StoreTuplestore.length_enc, Relation.length_enc, Slot.length_enc, RelView.length_enc]) (by simp [length_arr, length_arrS, Answer.length_enc, GOp.length_enc, Store.length_enc, GRel.length_enc, Row.length_enc, View.length_enc, Symtab.length_enc, StoreTuplestore.length_enc, Relation.length_enc, Slot.length_enc, RelView.length_enc])]
  simp [Index.enc]
theorem Index.next_get (x : Index) : nth x.enc 2 = some (Sl.val x.next) := get_of (pre := ([.int .i64 x.mask] ++ [Sl.val x.heads] : List Value)) (post := ([] : List Value)) (by simp [Index.enc]) (by simp [length_arr, length_arrS, Answer.length_enc, GOp.length_enc, Store.length_enc, GRel.length_enc, Row.length_enc, View.length_enc, Symtab.length_enc, StoreTuplestore.length_enc, Relation.length_enc, Slot.length_enc, RelView.length_enc])
theorem Index.next_set (x : Index) (y : Sl) : splice x.enc 2 ([Sl.val y]) = ({ x with next := y } : Index).enc := by
  rw [splice_of (pre := ([.int .i64 x.mask] ++ [Sl.val x.heads] : List Value)) (mid := [Sl.val x.next]) (post := ([] : List Value)) (by simp [Index.enc]) (by simp [length_arr, length_arrS, Answer.length_enc, GOp.length_enc, Store.length_enc, GRel.length_enc, Row.length_enc, View.length_enc, Symtab.length_enc, StoreTuplestore.length_enc, Relation.length_enc, Slot.length_enc, RelView.length_enc]) (by simp [length_arr, length_arrS, Answer.length_enc, GOp.length_enc, Store.length_enc, GRel.length_enc, Row.length_enc, View.length_enc, Symtab.length_enc, StoreTuplestore.length_enc, Relation.length_enc, Slot.length_enc, RelView.length_enc])]
  simp [Index.enc]

/-! ### the program's own loads, stores, new variables -/
theorem Try.ld29 (w : World) (b o : Nat) : (loadOp 29 (.pointer (some ⟨b, o, none⟩))).run Try.prog w = lookOr (cellAt (blk w b) o) w (rawLoad Try.prog 29 ⟨b, o, none⟩ w) := load_one Try.underlying29 rfl w b o
theorem Try.st29 (w : World) (b o : Nat) (v : Value) : (storeOp 29 (.pointer (some ⟨b, o, none⟩)) v).run Try.prog w = putOr (storeIn w (blk w b) b o 1 v) (rawStore Try.prog 29 ⟨b, o, none⟩ v w) := store_any (by kernel_rfl) w b o v
theorem Try.ld3 (w : World) (b o : Nat) : (loadOp 3 (.pointer (some ⟨b, o, none⟩))).run Try.prog w = lookOr (cellAt (blk w b) o) w (rawLoad Try.prog 3 ⟨b, o, none⟩ w) := load_one Try.underlying3 rfl w b o
theorem Try.st3 (w : World) (b o : Nat) (v : Value) : (storeOp 3 (.pointer (some ⟨b, o, none⟩)) v).run Try.prog w = putOr (storeIn w (blk w b) b o 1 v) (rawStore Try.prog 3 ⟨b, o, none⟩ v w) := store_any (by kernel_rfl) w b o v
theorem Try.ld9 (w : World) (b o : Nat) : (loadOp 9 (.pointer (some ⟨b, o, none⟩))).run Try.prog w = lookOr (cellAt (blk w b) o) w (rawLoad Try.prog 9 ⟨b, o, none⟩ w) := load_one Try.underlying9 rfl w b o
theorem Try.st9 (w : World) (b o : Nat) (v : Value) : (storeOp 9 (.pointer (some ⟨b, o, none⟩)) v).run Try.prog w = putOr (storeIn w (blk w b) b o 1 v) (rawStore Try.prog 9 ⟨b, o, none⟩ v w) := store_any (by kernel_rfl) w b o v
theorem Try.ld30 (w : World) (b o : Nat) : (loadOp 30 (.pointer (some ⟨b, o, none⟩))).run Try.prog w = lookOr (cellAt (blk w b) o) w (rawLoad Try.prog 30 ⟨b, o, none⟩ w) := load_one Try.underlying30 rfl w b o
theorem Try.st30 (w : World) (b o : Nat) (v : Value) : (storeOp 30 (.pointer (some ⟨b, o, none⟩)) v).run Try.prog w = putOr (storeIn w (blk w b) b o 1 v) (rawStore Try.prog 30 ⟨b, o, none⟩ v w) := store_any (by kernel_rfl) w b o v
theorem Try.ld34 (w : World) (b o : Nat) : (loadOp 34 (.pointer (some ⟨b, o, none⟩))).run Try.prog w = lookOr (cellAt (blk w b) o) w (rawLoad Try.prog 34 ⟨b, o, none⟩ w) := load_one Try.underlying34 rfl w b o
theorem Try.st34 (w : World) (b o : Nat) (v : Value) : (storeOp 34 (.pointer (some ⟨b, o, none⟩)) v).run Try.prog w = putOr (storeIn w (blk w b) b o 1 v) (rawStore Try.prog 34 ⟨b, o, none⟩ v w) := store_any (by kernel_rfl) w b o v
theorem Try.ld35 (w : World) (b o : Nat) : (loadOp 35 (.pointer (some ⟨b, o, none⟩))).run Try.prog w = lookOr (cellAt (blk w b) o) w (rawLoad Try.prog 35 ⟨b, o, none⟩ w) := load_one Try.underlying35 rfl w b o
theorem Try.st35 (w : World) (b o : Nat) (v : Value) : (storeOp 35 (.pointer (some ⟨b, o, none⟩)) v).run Try.prog w = putOr (storeIn w (blk w b) b o 1 v) (rawStore Try.prog 35 ⟨b, o, none⟩ v w) := store_any (by kernel_rfl) w b o v
theorem Try.ld36 (w : World) (b o : Nat) : (loadOp 36 (.pointer (some ⟨b, o, none⟩))).run Try.prog w = lookOr (cellAt (blk w b) o) w (rawLoad Try.prog 36 ⟨b, o, none⟩ w) := load_one Try.underlying36 rfl w b o
theorem Try.st36 (w : World) (b o : Nat) (v : Value) : (storeOp 36 (.pointer (some ⟨b, o, none⟩)) v).run Try.prog w = putOr (storeIn w (blk w b) b o 1 v) (rawStore Try.prog 36 ⟨b, o, none⟩ v w) := store_any (by kernel_rfl) w b o v
theorem Try.ld37 (w : World) (b o : Nat) : (loadOp 37 (.pointer (some ⟨b, o, none⟩))).run Try.prog w = lookOr (cellAt (blk w b) o) w (rawLoad Try.prog 37 ⟨b, o, none⟩ w) := load_one Try.underlying37 rfl w b o
theorem Try.st37 (w : World) (b o : Nat) (v : Value) : (storeOp 37 (.pointer (some ⟨b, o, none⟩)) v).run Try.prog w = putOr (storeIn w (blk w b) b o 1 v) (rawStore Try.prog 37 ⟨b, o, none⟩ v w) := store_any (by kernel_rfl) w b o v
theorem Try.ld44 (w : World) (b o : Nat) : (loadOp 44 (.pointer (some ⟨b, o, none⟩))).run Try.prog w = lookOr (cellAt (blk w b) o) w (rawLoad Try.prog 44 ⟨b, o, none⟩ w) := load_one Try.underlying44 rfl w b o
theorem Try.st44 (w : World) (b o : Nat) (v : Value) : (storeOp 44 (.pointer (some ⟨b, o, none⟩)) v).run Try.prog w = putOr (storeIn w (blk w b) b o 1 v) (rawStore Try.prog 44 ⟨b, o, none⟩ v w) := store_any (by kernel_rfl) w b o v
theorem Try.ld45 (w : World) (b o : Nat) : (loadOp 45 (.pointer (some ⟨b, o, none⟩))).run Try.prog w = lookOr (cellAt (blk w b) o) w (rawLoad Try.prog 45 ⟨b, o, none⟩ w) := load_one Try.underlying45 rfl w b o
theorem Try.st45 (w : World) (b o : Nat) (v : Value) : (storeOp 45 (.pointer (some ⟨b, o, none⟩)) v).run Try.prog w = putOr (storeIn w (blk w b) b o 1 v) (rawStore Try.prog 45 ⟨b, o, none⟩ v w) := store_any (by kernel_rfl) w b o v
theorem Try.ld54 (w : World) (b o : Nat) : (loadOp 54 (.pointer (some ⟨b, o, none⟩))).run Try.prog w = lookOr (cellAt (blk w b) o) w (rawLoad Try.prog 54 ⟨b, o, none⟩ w) := load_one Try.underlying54 rfl w b o
theorem Try.st54 (w : World) (b o : Nat) (v : Value) : (storeOp 54 (.pointer (some ⟨b, o, none⟩)) v).run Try.prog w = putOr (storeIn w (blk w b) b o 1 v) (rawStore Try.prog 54 ⟨b, o, none⟩ v w) := store_any (by kernel_rfl) w b o v
theorem Try.ld55 (w : World) (b o : Nat) : (loadOp 55 (.pointer (some ⟨b, o, none⟩))).run Try.prog w = lookOr (cellAt (blk w b) o) w (rawLoad Try.prog 55 ⟨b, o, none⟩ w) := load_one Try.underlying55 rfl w b o
theorem Try.st55 (w : World) (b o : Nat) (v : Value) : (storeOp 55 (.pointer (some ⟨b, o, none⟩)) v).run Try.prog w = putOr (storeIn w (blk w b) b o 1 v) (rawStore Try.prog 55 ⟨b, o, none⟩ v w) := store_any (by kernel_rfl) w b o v
theorem Try.ld74 (w : World) (b o : Nat) : (loadOp 74 (.pointer (some ⟨b, o, none⟩))).run Try.prog w = lookOr (cellAt (blk w b) o) w (rawLoad Try.prog 74 ⟨b, o, none⟩ w) := load_one Try.underlying74 rfl w b o
theorem Try.st74 (w : World) (b o : Nat) (v : Value) : (storeOp 74 (.pointer (some ⟨b, o, none⟩)) v).run Try.prog w = putOr (storeIn w (blk w b) b o 1 v) (rawStore Try.prog 74 ⟨b, o, none⟩ v w) := store_any (by kernel_rfl) w b o v
theorem Try.ld80 (w : World) (b o : Nat) : (loadOp 80 (.pointer (some ⟨b, o, none⟩))).run Try.prog w = lookOr (cellAt (blk w b) o) w (rawLoad Try.prog 80 ⟨b, o, none⟩ w) := load_one Try.underlying80 rfl w b o
theorem Try.st80 (w : World) (b o : Nat) (v : Value) : (storeOp 80 (.pointer (some ⟨b, o, none⟩)) v).run Try.prog w = putOr (storeIn w (blk w b) b o 1 v) (rawStore Try.prog 80 ⟨b, o, none⟩ v w) := store_any (by kernel_rfl) w b o v
theorem Try.ld84 (w : World) (b o : Nat) : (loadOp 84 (.pointer (some ⟨b, o, none⟩))).run Try.prog w = lookOr (cellAt (blk w b) o) w (rawLoad Try.prog 84 ⟨b, o, none⟩ w) := load_one Try.underlying84 rfl w b o
theorem Try.st84 (w : World) (b o : Nat) (v : Value) : (storeOp 84 (.pointer (some ⟨b, o, none⟩)) v).run Try.prog w = putOr (storeIn w (blk w b) b o 1 v) (rawStore Try.prog 84 ⟨b, o, none⟩ v w) := store_any (by kernel_rfl) w b o v
theorem Try.ld106 (w : World) (b o : Nat) : (loadOp 106 (.pointer (some ⟨b, o, none⟩))).run Try.prog w = lookOr (cellAt (blk w b) o) w (rawLoad Try.prog 106 ⟨b, o, none⟩ w) := load_one Try.underlying106 rfl w b o
theorem Try.st106 (w : World) (b o : Nat) (v : Value) : (storeOp 106 (.pointer (some ⟨b, o, none⟩)) v).run Try.prog w = putOr (storeIn w (blk w b) b o 1 v) (rawStore Try.prog 106 ⟨b, o, none⟩ v w) := store_any (by kernel_rfl) w b o v
theorem Try.ld107 (w : World) (b o : Nat) : (loadOp 107 (.pointer (some ⟨b, o, none⟩))).run Try.prog w = lookOr (cellAt (blk w b) o) w (rawLoad Try.prog 107 ⟨b, o, none⟩ w) := load_one Try.underlying107 rfl w b o
theorem Try.st107 (w : World) (b o : Nat) (v : Value) : (storeOp 107 (.pointer (some ⟨b, o, none⟩)) v).run Try.prog w = putOr (storeIn w (blk w b) b o 1 v) (rawStore Try.prog 107 ⟨b, o, none⟩ v w) := store_any (by kernel_rfl) w b o v
theorem Try.ld4 (w : World) (b o : Nat) : (loadOp 4 (.pointer (some ⟨b, o, none⟩))).run Try.prog w = lookOr (cellAt (blk w b) o) w (rawLoad Try.prog 4 ⟨b, o, none⟩ w) := load_one Try.underlying4 rfl w b o
theorem Try.st4 (w : World) (b o : Nat) (v : Value) : (storeOp 4 (.pointer (some ⟨b, o, none⟩)) v).run Try.prog w = putOr (storeIn w (blk w b) b o 1 v) (rawStore Try.prog 4 ⟨b, o, none⟩ v w) := store_any (by kernel_rfl) w b o v
theorem Try.ld121 (w : World) (b o : Nat) : (loadOp 121 (.pointer (some ⟨b, o, none⟩))).run Try.prog w = lookOr (cellAt (blk w b) o) w (rawLoad Try.prog 121 ⟨b, o, none⟩ w) := load_one Try.underlying121 rfl w b o
theorem Try.st121 (w : World) (b o : Nat) (v : Value) : (storeOp 121 (.pointer (some ⟨b, o, none⟩)) v).run Try.prog w = putOr (storeIn w (blk w b) b o 1 v) (rawStore Try.prog 121 ⟨b, o, none⟩ v w) := store_any (by kernel_rfl) w b o v
theorem Try.ld2 (w : World) (b o : Nat) : (loadOp 2 (.pointer (some ⟨b, o, none⟩))).run Try.prog w = lookOr (cellAt (blk w b) o) w (rawLoad Try.prog 2 ⟨b, o, none⟩ w) := load_one Try.underlying2 rfl w b o
theorem Try.st2 (w : World) (b o : Nat) (v : Value) : (storeOp 2 (.pointer (some ⟨b, o, none⟩)) v).run Try.prog w = putOr (storeIn w (blk w b) b o 1 v) (rawStore Try.prog 2 ⟨b, o, none⟩ v w) := store_any (by kernel_rfl) w b o v
theorem Try.ld5 (w : World) (b o : Nat) : (loadOp 5 (.pointer (some ⟨b, o, none⟩))).run Try.prog w = lookOr (cellAt (blk w b) o) w (rawLoad Try.prog 5 ⟨b, o, none⟩ w) := load_one Try.underlying5 rfl w b o
theorem Try.st5 (w : World) (b o : Nat) (v : Value) : (storeOp 5 (.pointer (some ⟨b, o, none⟩)) v).run Try.prog w = putOr (storeIn w (blk w b) b o 1 v) (rawStore Try.prog 5 ⟨b, o, none⟩ v w) := store_any (by kernel_rfl) w b o v
theorem Try.ld12 (w : World) (b o : Nat) : (loadOp 12 (.pointer (some ⟨b, o, none⟩))).run Try.prog w = lookOr (cellAt (blk w b) o) w (rawLoad Try.prog 12 ⟨b, o, none⟩ w) := load_one Try.underlying12 rfl w b o
theorem Try.st12 (w : World) (b o : Nat) (v : Value) : (storeOp 12 (.pointer (some ⟨b, o, none⟩)) v).run Try.prog w = putOr (storeIn w (blk w b) b o 1 v) (rawStore Try.prog 12 ⟨b, o, none⟩ v w) := store_any (by kernel_rfl) w b o v
theorem Try.ld21 (w : World) (b o : Nat) : (loadOp 21 (.pointer (some ⟨b, o, none⟩))).run Try.prog w = lookOr (cellAt (blk w b) o) w (rawLoad Try.prog 21 ⟨b, o, none⟩ w) := load_one Try.underlying21 rfl w b o
theorem Try.st21 (w : World) (b o : Nat) (v : Value) : (storeOp 21 (.pointer (some ⟨b, o, none⟩)) v).run Try.prog w = putOr (storeIn w (blk w b) b o 1 v) (rawStore Try.prog 21 ⟨b, o, none⟩ v w) := store_any (by kernel_rfl) w b o v
theorem Try.ld22 (w : World) (b o : Nat) : (loadOp 22 (.pointer (some ⟨b, o, none⟩))).run Try.prog w = lookOr (cellAt (blk w b) o) w (rawLoad Try.prog 22 ⟨b, o, none⟩ w) := load_one Try.underlying22 rfl w b o
theorem Try.st22 (w : World) (b o : Nat) (v : Value) : (storeOp 22 (.pointer (some ⟨b, o, none⟩)) v).run Try.prog w = putOr (storeIn w (blk w b) b o 1 v) (rawStore Try.prog 22 ⟨b, o, none⟩ v w) := store_any (by kernel_rfl) w b o v
theorem Try.ld24 (w : World) (b o : Nat) : (loadOp 24 (.pointer (some ⟨b, o, none⟩))).run Try.prog w = lookOr (cellAt (blk w b) o) w (rawLoad Try.prog 24 ⟨b, o, none⟩ w) := load_one Try.underlying24 rfl w b o
theorem Try.st24 (w : World) (b o : Nat) (v : Value) : (storeOp 24 (.pointer (some ⟨b, o, none⟩)) v).run Try.prog w = putOr (storeIn w (blk w b) b o 1 v) (rawStore Try.prog 24 ⟨b, o, none⟩ v w) := store_any (by kernel_rfl) w b o v
theorem Try.ld26 (w : World) (b o : Nat) : (loadOp 26 (.pointer (some ⟨b, o, none⟩))).run Try.prog w = lookOr (cellAt (blk w b) o) w (rawLoad Try.prog 26 ⟨b, o, none⟩ w) := load_one Try.underlying26 rfl w b o
theorem Try.st26 (w : World) (b o : Nat) (v : Value) : (storeOp 26 (.pointer (some ⟨b, o, none⟩)) v).run Try.prog w = putOr (storeIn w (blk w b) b o 1 v) (rawStore Try.prog 26 ⟨b, o, none⟩ v w) := store_any (by kernel_rfl) w b o v
theorem Try.ld63 (w : World) (b o : Nat) : (loadOp 63 (.pointer (some ⟨b, o, none⟩))).run Try.prog w = lookOr (cellAt (blk w b) o) w (rawLoad Try.prog 63 ⟨b, o, none⟩ w) := load_one Try.underlying63 rfl w b o
theorem Try.st63 (w : World) (b o : Nat) (v : Value) : (storeOp 63 (.pointer (some ⟨b, o, none⟩)) v).run Try.prog w = putOr (storeIn w (blk w b) b o 1 v) (rawStore Try.prog 63 ⟨b, o, none⟩ v w) := store_any (by kernel_rfl) w b o v
theorem Try.ld71 (w : World) (b o : Nat) : (loadOp 71 (.pointer (some ⟨b, o, none⟩))).run Try.prog w = lookOr (cellAt (blk w b) o) w (rawLoad Try.prog 71 ⟨b, o, none⟩ w) := load_one Try.underlying71 rfl w b o
theorem Try.st71 (w : World) (b o : Nat) (v : Value) : (storeOp 71 (.pointer (some ⟨b, o, none⟩)) v).run Try.prog w = putOr (storeIn w (blk w b) b o 1 v) (rawStore Try.prog 71 ⟨b, o, none⟩ v w) := store_any (by kernel_rfl) w b o v
theorem Try.ld103 (w : World) (b o : Nat) : (loadOp 103 (.pointer (some ⟨b, o, none⟩))).run Try.prog w = lookOr (cellAt (blk w b) o) w (rawLoad Try.prog 103 ⟨b, o, none⟩ w) := load_one Try.underlying103 rfl w b o
theorem Try.st103 (w : World) (b o : Nat) (v : Value) : (storeOp 103 (.pointer (some ⟨b, o, none⟩)) v).run Try.prog w = putOr (storeIn w (blk w b) b o 1 v) (rawStore Try.prog 103 ⟨b, o, none⟩ v w) := store_any (by kernel_rfl) w b o v
theorem Try.ld130 (w : World) (b o : Nat) : (loadOp 130 (.pointer (some ⟨b, o, none⟩))).run Try.prog w = lookOr (cellAt (blk w b) o) w (rawLoad Try.prog 130 ⟨b, o, none⟩ w) := load_one Try.underlying130 rfl w b o
theorem Try.st130 (w : World) (b o : Nat) (v : Value) : (storeOp 130 (.pointer (some ⟨b, o, none⟩)) v).run Try.prog w = putOr (storeIn w (blk w b) b o 1 v) (rawStore Try.prog 130 ⟨b, o, none⟩ v w) := store_any (by kernel_rfl) w b o v
theorem Try.ld133 (w : World) (b o : Nat) : (loadOp 133 (.pointer (some ⟨b, o, none⟩))).run Try.prog w = lookOr (cellAt (blk w b) o) w (rawLoad Try.prog 133 ⟨b, o, none⟩ w) := load_one Try.underlying133 rfl w b o
theorem Try.st133 (w : World) (b o : Nat) (v : Value) : (storeOp 133 (.pointer (some ⟨b, o, none⟩)) v).run Try.prog w = putOr (storeIn w (blk w b) b o 1 v) (rawStore Try.prog 133 ⟨b, o, none⟩ v w) := store_any (by kernel_rfl) w b o v
theorem Try.ld140 (w : World) (b o : Nat) : (loadOp 140 (.pointer (some ⟨b, o, none⟩))).run Try.prog w = lookOr (cellAt (blk w b) o) w (rawLoad Try.prog 140 ⟨b, o, none⟩ w) := load_one Try.underlying140 rfl w b o
theorem Try.st140 (w : World) (b o : Nat) (v : Value) : (storeOp 140 (.pointer (some ⟨b, o, none⟩)) v).run Try.prog w = putOr (storeIn w (blk w b) b o 1 v) (rawStore Try.prog 140 ⟨b, o, none⟩ v w) := store_any (by kernel_rfl) w b o v
theorem Try.ld152 (w : World) (b o : Nat) : (loadOp 152 (.pointer (some ⟨b, o, none⟩))).run Try.prog w = lookOr (cellAt (blk w b) o) w (rawLoad Try.prog 152 ⟨b, o, none⟩ w) := load_one Try.underlying152 rfl w b o
theorem Try.st152 (w : World) (b o : Nat) (v : Value) : (storeOp 152 (.pointer (some ⟨b, o, none⟩)) v).run Try.prog w = putOr (storeIn w (blk w b) b o 1 v) (rawStore Try.prog 152 ⟨b, o, none⟩ v w) := store_any (by kernel_rfl) w b o v
theorem Try.ld39 (w : World) (b o : Nat) : (loadOp 39 (.pointer (some ⟨b, o, none⟩))).run Try.prog w = lookOr (segAt (blk w b) o 4) w (rawLoad Try.prog 39 ⟨b, o, none⟩ w) := load_agg Try.underlying39 rfl (by kernel_rfl) w b o
theorem Try.st39 (w : World) (b o : Nat) (v : Value) : (storeOp 39 (.pointer (some ⟨b, o, none⟩)) v).run Try.prog w = putOr (storeIn w (blk w b) b o 4 v) (rawStore Try.prog 39 ⟨b, o, none⟩ v w) := store_any (by kernel_rfl) w b o v
theorem Try.al39 (w : World) : (allocOp 39).run Try.prog w = .ok (.value (.pointer (some ⟨w.heap.size, 0, none⟩))) (w.alloc (.cells (arr i64v ((Vector.replicate 4 0) : (Vector Int 4))).toArray 39)) := alloc_any (v := .agg (arr i64v ((Vector.replicate 4 0) : (Vector Int 4))).toArray) (by kernel_rfl) w
theorem Try.ld32 (w : World) (b o : Nat) : (loadOp 32 (.pointer (some ⟨b, o, none⟩))).run Try.prog w = lookOr (segAt (blk w b) o 4) w (rawLoad Try.prog 32 ⟨b, o, none⟩ w) := load_agg Try.underlying32 rfl (by kernel_rfl) w b o
theorem Try.st32 (w : World) (b o : Nat) (v : Value) : (storeOp 32 (.pointer (some ⟨b, o, none⟩)) v).run Try.prog w = putOr (storeIn w (blk w b) b o 4 v) (rawStore Try.prog 32 ⟨b, o, none⟩ v w) := store_any (by kernel_rfl) w b o v
theorem Try.al32 (w : World) : (allocOp 32).run Try.prog w = .ok (.value (.pointer (some ⟨w.heap.size, 0, none⟩))) (w.alloc (.cells (Answer.enc (Answer.zero : Answer)).toArray 32)) := alloc_any (v := .agg (Answer.enc (Answer.zero : Answer)).toArray) (by kernel_rfl) w
theorem Try.ld41 (w : World) (b o : Nat) : (loadOp 41 (.pointer (some ⟨b, o, none⟩))).run Try.prog w = lookOr (segAt (blk w b) o 9) w (rawLoad Try.prog 41 ⟨b, o, none⟩ w) := load_agg Try.underlying41 rfl (by kernel_rfl) w b o
theorem Try.st41 (w : World) (b o : Nat) (v : Value) : (storeOp 41 (.pointer (some ⟨b, o, none⟩)) v).run Try.prog w = putOr (storeIn w (blk w b) b o 9 v) (rawStore Try.prog 41 ⟨b, o, none⟩ v w) := store_any (by kernel_rfl) w b o v
theorem Try.al41 (w : World) : (allocOp 41).run Try.prog w = .ok (.value (.pointer (some ⟨w.heap.size, 0, none⟩))) (w.alloc (.cells (GOp.enc (GOp.zero : GOp)).toArray 41)) := alloc_any (v := .agg (GOp.enc (GOp.zero : GOp)).toArray) (by kernel_rfl) w
theorem Try.ld47 (w : World) (b o : Nat) : (loadOp 47 (.pointer (some ⟨b, o, none⟩))).run Try.prog w = lookOr (segAt (blk w b) o 2) w (rawLoad Try.prog 47 ⟨b, o, none⟩ w) := load_agg Try.underlying47 rfl (by kernel_rfl) w b o
theorem Try.st47 (w : World) (b o : Nat) (v : Value) : (storeOp 47 (.pointer (some ⟨b, o, none⟩)) v).run Try.prog w = putOr (storeIn w (blk w b) b o 2 v) (rawStore Try.prog 47 ⟨b, o, none⟩ v w) := store_any (by kernel_rfl) w b o v
theorem Try.al47 (w : World) : (allocOp 47).run Try.prog w = .ok (.value (.pointer (some ⟨w.heap.size, 0, none⟩))) (w.alloc (.cells (Store.enc (Store.zero : Store)).toArray 47)) := alloc_any (v := .agg (Store.enc (Store.zero : Store)).toArray) (by kernel_rfl) w
theorem Try.ld57 (w : World) (b o : Nat) : (loadOp 57 (.pointer (some ⟨b, o, none⟩))).run Try.prog w = lookOr (segAt (blk w b) o 3) w (rawLoad Try.prog 57 ⟨b, o, none⟩ w) := load_agg Try.underlying57 rfl (by kernel_rfl) w b o
theorem Try.st57 (w : World) (b o : Nat) (v : Value) : (storeOp 57 (.pointer (some ⟨b, o, none⟩)) v).run Try.prog w = putOr (storeIn w (blk w b) b o 3 v) (rawStore Try.prog 57 ⟨b, o, none⟩ v w) := store_any (by kernel_rfl) w b o v
theorem Try.al57 (w : World) : (allocOp 57).run Try.prog w = .ok (.value (.pointer (some ⟨w.heap.size, 0, none⟩))) (w.alloc (.cells (GRel.enc (GRel.zero : GRel)).toArray 57)) := alloc_any (v := .agg (GRel.enc (GRel.zero : GRel)).toArray) (by kernel_rfl) w
theorem Try.ld62 (w : World) (b o : Nat) : (loadOp 62 (.pointer (some ⟨b, o, none⟩))).run Try.prog w = lookOr (segAt (blk w b) o 5) w (rawLoad Try.prog 62 ⟨b, o, none⟩ w) := load_agg Try.underlying62 rfl (by kernel_rfl) w b o
theorem Try.st62 (w : World) (b o : Nat) (v : Value) : (storeOp 62 (.pointer (some ⟨b, o, none⟩)) v).run Try.prog w = putOr (storeIn w (blk w b) b o 5 v) (rawStore Try.prog 62 ⟨b, o, none⟩ v w) := store_any (by kernel_rfl) w b o v
theorem Try.al62 (w : World) : (allocOp 62).run Try.prog w = .ok (.value (.pointer (some ⟨w.heap.size, 0, none⟩))) (w.alloc (.cells (Row.enc (Row.zero : Row)).toArray 62)) := alloc_any (v := .agg (Row.enc (Row.zero : Row)).toArray) (by kernel_rfl) w
theorem Try.ld76 (w : World) (b o : Nat) : (loadOp 76 (.pointer (some ⟨b, o, none⟩))).run Try.prog w = lookOr (segAt (blk w b) o 2) w (rawLoad Try.prog 76 ⟨b, o, none⟩ w) := load_agg Try.underlying76 rfl (by kernel_rfl) w b o
theorem Try.st76 (w : World) (b o : Nat) (v : Value) : (storeOp 76 (.pointer (some ⟨b, o, none⟩)) v).run Try.prog w = putOr (storeIn w (blk w b) b o 2 v) (rawStore Try.prog 76 ⟨b, o, none⟩ v w) := store_any (by kernel_rfl) w b o v
theorem Try.al76 (w : World) : (allocOp 76).run Try.prog w = .ok (.value (.pointer (some ⟨w.heap.size, 0, none⟩))) (w.alloc (.cells (View.enc (View.zero : View)).toArray 76)) := alloc_any (v := .agg (View.enc (View.zero : View)).toArray) (by kernel_rfl) w
theorem Try.ld82 (w : World) (b o : Nat) : (loadOp 82 (.pointer (some ⟨b, o, none⟩))).run Try.prog w = lookOr (segAt (blk w b) o 2) w (rawLoad Try.prog 82 ⟨b, o, none⟩ w) := load_agg Try.underlying82 rfl (by kernel_rfl) w b o
theorem Try.st82 (w : World) (b o : Nat) (v : Value) : (storeOp 82 (.pointer (some ⟨b, o, none⟩)) v).run Try.prog w = putOr (storeIn w (blk w b) b o 2 v) (rawStore Try.prog 82 ⟨b, o, none⟩ v w) := store_any (by kernel_rfl) w b o v
theorem Try.al82 (w : World) : (allocOp 82).run Try.prog w = .ok (.value (.pointer (some ⟨w.heap.size, 0, none⟩))) (w.alloc (.cells (Symtab.enc (Symtab.zero : Symtab)).toArray 82)) := alloc_any (v := .agg (Symtab.enc (Symtab.zero : Symtab)).toArray) (by kernel_rfl) w
theorem Try.ld86 (w : World) (b o : Nat) : (loadOp 86 (.pointer (some ⟨b, o, none⟩))).run Try.prog w = lookOr (segAt (blk w b) o 3) w (rawLoad Try.prog 86 ⟨b, o, none⟩ w) := load_agg Try.underlying86 rfl (by kernel_rfl) w b o
theorem Try.st86 (w : World) (b o : Nat) (v : Value) : (storeOp 86 (.pointer (some ⟨b, o, none⟩)) v).run Try.prog w = putOr (storeIn w (blk w b) b o 3 v) (rawStore Try.prog 86 ⟨b, o, none⟩ v w) := store_any (by kernel_rfl) w b o v
theorem Try.al86 (w : World) : (allocOp 86).run Try.prog w = .ok (.value (.pointer (some ⟨w.heap.size, 0, none⟩))) (w.alloc (.cells (StoreTuplestore.enc (StoreTuplestore.zero : StoreTuplestore)).toArray 86)) := alloc_any (v := .agg (StoreTuplestore.enc (StoreTuplestore.zero : StoreTuplestore)).toArray) (by kernel_rfl) w
theorem Try.ld109 (w : World) (b o : Nat) : (loadOp 109 (.pointer (some ⟨b, o, none⟩))).run Try.prog w = lookOr (segAt (blk w b) o 4) w (rawLoad Try.prog 109 ⟨b, o, none⟩ w) := load_agg Try.underlying109 rfl (by kernel_rfl) w b o
theorem Try.st109 (w : World) (b o : Nat) (v : Value) : (storeOp 109 (.pointer (some ⟨b, o, none⟩)) v).run Try.prog w = putOr (storeIn w (blk w b) b o 4 v) (rawStore Try.prog 109 ⟨b, o, none⟩ v w) := store_any (by kernel_rfl) w b o v
theorem Try.al109 (w : World) : (allocOp 109).run Try.prog w = .ok (.value (.pointer (some ⟨w.heap.size, 0, none⟩))) (w.alloc (.cells (Relation.enc (Relation.zero : Relation)).toArray 109)) := alloc_any (v := .agg (Relation.enc (Relation.zero : Relation)).toArray) (by kernel_rfl) w
theorem Try.ld115 (w : World) (b o : Nat) : (loadOp 115 (.pointer (some ⟨b, o, none⟩))).run Try.prog w = lookOr (segAt (blk w b) o 6) w (rawLoad Try.prog 115 ⟨b, o, none⟩ w) := load_agg Try.underlying115 rfl (by kernel_rfl) w b o
theorem Try.st115 (w : World) (b o : Nat) (v : Value) : (storeOp 115 (.pointer (some ⟨b, o, none⟩)) v).run Try.prog w = putOr (storeIn w (blk w b) b o 6 v) (rawStore Try.prog 115 ⟨b, o, none⟩ v w) := store_any (by kernel_rfl) w b o v
theorem Try.al115 (w : World) : (allocOp 115).run Try.prog w = .ok (.value (.pointer (some ⟨w.heap.size, 0, none⟩))) (w.alloc (.cells (Slot.enc (Slot.zero : Slot)).toArray 115)) := alloc_any (v := .agg (Slot.enc (Slot.zero : Slot)).toArray) (by kernel_rfl) w
theorem Try.ld123 (w : World) (b o : Nat) : (loadOp 123 (.pointer (some ⟨b, o, none⟩))).run Try.prog w = lookOr (segAt (blk w b) o 4) w (rawLoad Try.prog 123 ⟨b, o, none⟩ w) := load_agg Try.underlying123 rfl (by kernel_rfl) w b o
theorem Try.st123 (w : World) (b o : Nat) (v : Value) : (storeOp 123 (.pointer (some ⟨b, o, none⟩)) v).run Try.prog w = putOr (storeIn w (blk w b) b o 4 v) (rawStore Try.prog 123 ⟨b, o, none⟩ v w) := store_any (by kernel_rfl) w b o v
theorem Try.al123 (w : World) : (allocOp 123).run Try.prog w = .ok (.value (.pointer (some ⟨w.heap.size, 0, none⟩))) (w.alloc (.cells (RelView.enc (RelView.zero : RelView)).toArray 123)) := alloc_any (v := .agg (RelView.enc (RelView.zero : RelView)).toArray) (by kernel_rfl) w
theorem Try.ld135 (w : World) (b o : Nat) : (loadOp 135 (.pointer (some ⟨b, o, none⟩))).run Try.prog w = lookOr (segAt (blk w b) o 3) w (rawLoad Try.prog 135 ⟨b, o, none⟩ w) := load_agg Try.underlying135 rfl (by kernel_rfl) w b o
theorem Try.st135 (w : World) (b o : Nat) (v : Value) : (storeOp 135 (.pointer (some ⟨b, o, none⟩)) v).run Try.prog w = putOr (storeIn w (blk w b) b o 3 v) (rawStore Try.prog 135 ⟨b, o, none⟩ v w) := store_any (by kernel_rfl) w b o v
theorem Try.al135 (w : World) : (allocOp 135).run Try.prog w = .ok (.value (.pointer (some ⟨w.heap.size, 0, none⟩))) (w.alloc (.cells (Index.enc (Index.zero : Index)).toArray 135)) := alloc_any (v := .agg (Index.enc (Index.zero : Index)).toArray) (by kernel_rfl) w
end Go.Proofs.Qxb6500789a
