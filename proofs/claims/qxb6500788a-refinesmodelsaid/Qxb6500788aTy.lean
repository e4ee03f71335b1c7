/- WRITTEN BY A PROGRAM (tools/gentypes.py) off the dump's types: Go's structs as Lean structures, their cells, their fields' places. -/
import Derived.Test.Qxb6500788aProg
import Derived.Test.Qxb6500788aMem
namespace Go.Proofs.Qxb6500788a
open Go.Blk
set_option linter.unusedSimpArgs false

structure GProgram where
  preds : Sl
  rules : Sl
  strata : Int
def GProgram.zero : GProgram := ⟨⟨none, 0, 0⟩, ⟨none, 0, 0⟩, 0⟩
def GProgram.enc (x : GProgram) : List Value :=
  [Sl.val x.preds] ++ ([Sl.val x.rules] ++ ([.int .i64 x.strata]))
theorem GProgram.length_enc (x : GProgram) : x.enc.length = 3 := by simp [GProgram.enc, length_arr, length_arrS]
theorem GProgram.one_enc (x : GProgram) : x.enc.all (fun v => v.oneCell') = true := by simp only [GProgram.enc, List.all_append, List.all_cons, List.all_nil, oneC_int, oneC_bool, oneC_string, oneC_pointer, oneC_slice, Bool.and_true, Bool.true_and, implies_true, one_arr_u8, one_arr_u32, one_arr_u64, one_arr_i64, one_arr_bool, one_arr_str, one_arr_ptr, one_arr_sl, one_arrS, one_u8, one_u32, one_u64, one_i64, one_bool, one_str, one_sl, one_ptr]
theorem GProgram.ok_enc (x : GProgram) : okCells 3 x.enc = true := ok_mk x.length_enc x.one_enc
theorem GProgram.all_get (x : GProgram) : seg x.enc 0 3 = x.enc := seg_all _ _ x.length_enc
theorem GProgram.all_set (x y : GProgram) : splice x.enc 0 y.enc = y.enc := splice_all _ _ (by rw [x.length_enc, y.length_enc])
theorem GProgram.preds_get (x : GProgram) : nth x.enc 0 = some (Sl.val x.preds) := get_of (pre := ([] : List Value)) (post := ([Sl.val x.rules] ++ [.int .i64 x.strata] : List Value)) (by simp [GProgram.enc]) (by simp [length_arr, length_arrS])
theorem GProgram.preds_set (x : GProgram) (y : Sl) : splice x.enc 0 ([Sl.val y]) = ({ x with preds := y } : GProgram).enc := by
  rw [splice_of (pre := ([] : List Value)) (mid := [Sl.val x.preds]) (post := ([Sl.val x.rules] ++ [.int .i64 x.strata] : List Value)) (by simp [GProgram.enc]) (by simp [length_arr, length_arrS]) (by simp [length_arr, length_arrS])]
  simp [GProgram.enc]
theorem GProgram.rules_get (x : GProgram) : nth x.enc 1 = some (Sl.val x.rules) := get_of (pre := ([Sl.val x.preds] : List Value)) (post := ([.int .i64 x.strata] : List Value)) (by simp [GProgram.enc]) (by simp [length_arr, length_arrS])
theorem GProgram.rules_set (x : GProgram) (y : Sl) : splice x.enc 1 ([Sl.val y]) = ({ x with rules := y } : GProgram).enc := by
  rw [splice_of (pre := ([Sl.val x.preds] : List Value)) (mid := [Sl.val x.rules]) (post := ([.int .i64 x.strata] : List Value)) (by simp [GProgram.enc]) (by simp [length_arr, length_arrS]) (by simp [length_arr, length_arrS])]
  simp [GProgram.enc]
theorem GProgram.strata_get (x : GProgram) : nth x.enc 2 = some (.int .i64 x.strata) := get_of (pre := ([Sl.val x.preds] ++ [Sl.val x.rules] : List Value)) (post := ([] : List Value)) (by simp [GProgram.enc]) (by simp [length_arr, length_arrS])
theorem GProgram.strata_set (x : GProgram) (y : Int) : splice x.enc 2 ([.int .i64 y]) = ({ x with strata := y } : GProgram).enc := by
  rw [splice_of (pre := ([Sl.val x.preds] ++ [Sl.val x.rules] : List Value)) (mid := [.int .i64 x.strata]) (post := ([] : List Value)) (by simp [GProgram.enc]) (by simp [length_arr, length_arrS]) (by simp [length_arr, length_arrS])]
  simp [GProgram.enc]

structure Answer where
  code : Int
  n : Int
  rows : Sl
def Answer.zero : Answer := ⟨0, 0, ⟨none, 0, 0⟩⟩
def Answer.enc (x : Answer) : List Value :=
  [.int .i64 x.code] ++ ([.int .i64 x.n] ++ ([Sl.val x.rows]))
theorem Answer.length_enc (x : Answer) : x.enc.length = 3 := by simp [Answer.enc, length_arr, length_arrS, GProgram.length_enc]
theorem Answer.one_enc (x : Answer) : x.enc.all (fun v => v.oneCell') = true := by simp only [Answer.enc, List.all_append, List.all_cons, List.all_nil, oneC_int, oneC_bool, oneC_string, oneC_pointer, oneC_slice, Bool.and_true, Bool.true_and, implies_true, one_arr_u8, one_arr_u32, one_arr_u64, one_arr_i64, one_arr_bool, one_arr_str, one_arr_ptr, one_arr_sl, one_arrS, one_u8, one_u32, one_u64, one_i64, one_bool, one_str, one_sl, one_ptr, GProgram.one_enc]
theorem Answer.ok_enc (x : Answer) : okCells 3 x.enc = true := ok_mk x.length_enc x.one_enc
theorem Answer.all_get (x : Answer) : seg x.enc 0 3 = x.enc := seg_all _ _ x.length_enc
theorem Answer.all_set (x y : Answer) : splice x.enc 0 y.enc = y.enc := splice_all _ _ (by rw [x.length_enc, y.length_enc])
theorem Answer.code_get (x : Answer) : nth x.enc 0 = some (.int .i64 x.code) := get_of (pre := ([] : List Value)) (post := ([.int .i64 x.n] ++ [Sl.val x.rows] : List Value)) (by simp [Answer.enc]) (by simp [length_arr, length_arrS, GProgram.length_enc])
theorem Answer.code_set (x : Answer) (y : Int) : splice x.enc 0 ([.int .i64 y]) = ({ x with code := y } : Answer).enc := by
  rw [splice_of (pre := ([] : List Value)) (mid := [.int .i64 x.code]) (post := ([.int .i64 x.n] ++ [Sl.val x.rows] : List Value)) (by simp [Answer.enc]) (by simp [length_arr, length_arrS, GProgram.length_enc]) (by simp [length_arr, length_arrS, GProgram.length_enc])]
  simp [Answer.enc]
theorem Answer.n_get (x : Answer) : nth x.enc 1 = some (.int .i64 x.n) := get_of (pre := ([.int .i64 x.code] : List Value)) (post := ([Sl.val x.rows] : List Value)) (by simp [Answer.enc]) (by simp [length_arr, length_arrS, GProgram.length_enc])
theorem Answer.n_set (x : Answer) (y : Int) : splice x.enc 1 ([.int .i64 y]) = ({ x with n := y } : Answer).enc := by
  rw [splice_of (pre := ([.int .i64 x.code] : List Value)) (mid := [.int .i64 x.n]) (post := ([Sl.val x.rows] : List Value)) (by simp [Answer.enc]) (by simp [length_arr, length_arrS, GProgram.length_enc]) (by simp [length_arr, length_arrS, GProgram.length_enc])]
  simp [Answer.enc]
theorem Answer.rows_get (x : Answer) : nth x.enc 2 = some (Sl.val x.rows) := get_of (pre := ([.int .i64 x.code] ++ [.int .i64 x.n] : List Value)) (post := ([] : List Value)) (by simp [Answer.enc]) (by simp [length_arr, length_arrS, GProgram.length_enc])
theorem Answer.rows_set (x : Answer) (y : Sl) : splice x.enc 2 ([Sl.val y]) = ({ x with rows := y } : Answer).enc := by
  rw [splice_of (pre := ([.int .i64 x.code] ++ [.int .i64 x.n] : List Value)) (mid := [Sl.val x.rows]) (post := ([] : List Value)) (by simp [Answer.enc]) (by simp [length_arr, length_arrS, GProgram.length_enc]) (by simp [length_arr, length_arrS, GProgram.length_enc])]
  simp [Answer.enc]

structure Term where
  var : Bool
  n : Int
def Term.zero : Term := ⟨false, 0⟩
def Term.enc (x : Term) : List Value :=
  [.bool x.var] ++ ([.int .i64 x.n])
theorem Term.length_enc (x : Term) : x.enc.length = 2 := by simp [Term.enc, length_arr, length_arrS, GProgram.length_enc, Answer.length_enc]
theorem Term.one_enc (x : Term) : x.enc.all (fun v => v.oneCell') = true := by simp only [Term.enc, List.all_append, List.all_cons, List.all_nil, oneC_int, oneC_bool, oneC_string, oneC_pointer, oneC_slice, Bool.and_true, Bool.true_and, implies_true, one_arr_u8, one_arr_u32, one_arr_u64, one_arr_i64, one_arr_bool, one_arr_str, one_arr_ptr, one_arr_sl, one_arrS, one_u8, one_u32, one_u64, one_i64, one_bool, one_str, one_sl, one_ptr, GProgram.one_enc, Answer.one_enc]
theorem Term.ok_enc (x : Term) : okCells 2 x.enc = true := ok_mk x.length_enc x.one_enc
theorem Term.all_get (x : Term) : seg x.enc 0 2 = x.enc := seg_all _ _ x.length_enc
theorem Term.all_set (x y : Term) : splice x.enc 0 y.enc = y.enc := splice_all _ _ (by rw [x.length_enc, y.length_enc])
theorem Term.var_get (x : Term) : nth x.enc 0 = some (.bool x.var) := get_of (pre := ([] : List Value)) (post := ([.int .i64 x.n] : List Value)) (by simp [Term.enc]) (by simp [length_arr, length_arrS, GProgram.length_enc, Answer.length_enc])
theorem Term.var_set (x : Term) (y : Bool) : splice x.enc 0 ([.bool y]) = ({ x with var := y } : Term).enc := by
  rw [splice_of (pre := ([] : List Value)) (mid := [.bool x.var]) (post := ([.int .i64 x.n] : List Value)) (by simp [Term.enc]) (by simp [length_arr, length_arrS, GProgram.length_enc, Answer.length_enc]) (by simp [length_arr, length_arrS, GProgram.length_enc, Answer.length_enc])]
  simp [Term.enc]
theorem Term.n_get (x : Term) : nth x.enc 1 = some (.int .i64 x.n) := get_of (pre := ([.bool x.var] : List Value)) (post := ([] : List Value)) (by simp [Term.enc]) (by simp [length_arr, length_arrS, GProgram.length_enc, Answer.length_enc])
theorem Term.n_set (x : Term) (y : Int) : splice x.enc 1 ([.int .i64 y]) = ({ x with n := y } : Term).enc := by
  rw [splice_of (pre := ([.bool x.var] : List Value)) (mid := [.int .i64 x.n]) (post := ([] : List Value)) (by simp [Term.enc]) (by simp [length_arr, length_arrS, GProgram.length_enc, Answer.length_enc]) (by simp [length_arr, length_arrS, GProgram.length_enc, Answer.length_enc])]
  simp [Term.enc]

structure Atom where
  pred : Int
  args : (Vector Term 4)
def Atom.zero : Atom := ⟨0, (Vector.replicate 4 Term.zero)⟩
def Atom.enc (x : Atom) : List Value :=
  [.int .i64 x.pred] ++ (arrS Term.enc x.args)
theorem Atom.length_enc (x : Atom) : x.enc.length = 9 := by simp [Atom.enc, length_arr, length_arrS, GProgram.length_enc, Answer.length_enc, Term.length_enc]
theorem Atom.one_enc (x : Atom) : x.enc.all (fun v => v.oneCell') = true := by simp only [Atom.enc, List.all_append, List.all_cons, List.all_nil, oneC_int, oneC_bool, oneC_string, oneC_pointer, oneC_slice, Bool.and_true, Bool.true_and, implies_true, one_arr_u8, one_arr_u32, one_arr_u64, one_arr_i64, one_arr_bool, one_arr_str, one_arr_ptr, one_arr_sl, one_arrS, one_u8, one_u32, one_u64, one_i64, one_bool, one_str, one_sl, one_ptr, GProgram.one_enc, Answer.one_enc, Term.one_enc]
theorem Atom.ok_enc (x : Atom) : okCells 9 x.enc = true := ok_mk x.length_enc x.one_enc
theorem Atom.all_get (x : Atom) : seg x.enc 0 9 = x.enc := seg_all _ _ x.length_enc
theorem Atom.all_set (x y : Atom) : splice x.enc 0 y.enc = y.enc := splice_all _ _ (by rw [x.length_enc, y.length_enc])
theorem Atom.pred_get (x : Atom) : nth x.enc 0 = some (.int .i64 x.pred) := get_of (pre := ([] : List Value)) (post := (arrS Term.enc x.args : List Value)) (by simp [Atom.enc]) (by simp [length_arr, length_arrS, GProgram.length_enc, Answer.length_enc, Term.length_enc])
theorem Atom.pred_set (x : Atom) (y : Int) : splice x.enc 0 ([.int .i64 y]) = ({ x with pred := y } : Atom).enc := by
  rw [splice_of (pre := ([] : List Value)) (mid := [.int .i64 x.pred]) (post := (arrS Term.enc x.args : List Value)) (by simp [Atom.enc]) (by simp [length_arr, length_arrS, GProgram.length_enc, Answer.length_enc, Term.length_enc]) (by simp [length_arr, length_arrS, GProgram.length_enc, Answer.length_enc, Term.length_enc])]
  simp [Atom.enc]
theorem Atom.args_get (x : Atom) : seg x.enc 1 8 = arrS Term.enc x.args := part_of (pre := ([.int .i64 x.pred] : List Value)) (post := ([] : List Value)) (by simp [Atom.enc]) (by simp [length_arr, length_arrS, GProgram.length_enc, Answer.length_enc, Term.length_enc]) (by simp [length_arr, length_arrS, GProgram.length_enc, Answer.length_enc, Term.length_enc])
theorem Atom.args_set (x : Atom) (y : (Vector Term 4)) : splice x.enc 1 (arrS Term.enc y) = ({ x with args := y } : Atom).enc := by
  rw [splice_of (pre := ([.int .i64 x.pred] : List Value)) (mid := arrS Term.enc x.args) (post := ([] : List Value)) (by simp [Atom.enc]) (by simp [length_arr, length_arrS, GProgram.length_enc, Answer.length_enc, Term.length_enc]) (by simp [length_arr, length_arrS, GProgram.length_enc, Answer.length_enc, Term.length_enc])]
  simp [Atom.enc]

structure GRule where
  head : Atom
  body : Sl
def GRule.zero : GRule := ⟨Atom.zero, ⟨none, 0, 0⟩⟩
def GRule.enc (x : GRule) : List Value :=
  Atom.enc x.head ++ ([Sl.val x.body])
theorem GRule.length_enc (x : GRule) : x.enc.length = 10 := by simp [GRule.enc, length_arr, length_arrS, GProgram.length_enc, Answer.length_enc, Term.length_enc, Atom.length_enc]
theorem GRule.one_enc (x : GRule) : x.enc.all (fun v => v.oneCell') = true := by simp only [GRule.enc, List.all_append, List.all_cons, List.all_nil, oneC_int, oneC_bool, oneC_string, oneC_pointer, oneC_slice, Bool.and_true, Bool.true_and, implies_true, one_arr_u8, one_arr_u32, one_arr_u64, one_arr_i64, one_arr_bool, one_arr_str, one_arr_ptr, one_arr_sl, one_arrS, one_u8, one_u32, one_u64, one_i64, one_bool, one_str, one_sl, one_ptr, GProgram.one_enc, Answer.one_enc, Term.one_enc, Atom.one_enc]
theorem GRule.ok_enc (x : GRule) : okCells 10 x.enc = true := ok_mk x.length_enc x.one_enc
theorem GRule.all_get (x : GRule) : seg x.enc 0 10 = x.enc := seg_all _ _ x.length_enc
theorem GRule.all_set (x y : GRule) : splice x.enc 0 y.enc = y.enc := splice_all _ _ (by rw [x.length_enc, y.length_enc])
theorem GRule.head_get (x : GRule) : seg x.enc 0 9 = Atom.enc x.head := part_of (pre := ([] : List Value)) (post := ([Sl.val x.body] : List Value)) (by simp [GRule.enc]) (by simp [length_arr, length_arrS, GProgram.length_enc, Answer.length_enc, Term.length_enc, Atom.length_enc]) (by simp [length_arr, length_arrS, GProgram.length_enc, Answer.length_enc, Term.length_enc, Atom.length_enc])
theorem GRule.head_set (x : GRule) (y : Atom) : splice x.enc 0 (Atom.enc y) = ({ x with head := y } : GRule).enc := by
  rw [splice_of (pre := ([] : List Value)) (mid := Atom.enc x.head) (post := ([Sl.val x.body] : List Value)) (by simp [GRule.enc]) (by simp [length_arr, length_arrS, GProgram.length_enc, Answer.length_enc, Term.length_enc, Atom.length_enc]) (by simp [length_arr, length_arrS, GProgram.length_enc, Answer.length_enc, Term.length_enc, Atom.length_enc])]
  simp [GRule.enc]
theorem GRule.body_get (x : GRule) : nth x.enc 9 = some (Sl.val x.body) := get_of (pre := (Atom.enc x.head : List Value)) (post := ([] : List Value)) (by simp [GRule.enc]) (by simp [length_arr, length_arrS, GProgram.length_enc, Answer.length_enc, Term.length_enc, Atom.length_enc])
theorem GRule.body_set (x : GRule) (y : Sl) : splice x.enc 9 ([Sl.val y]) = ({ x with body := y } : GRule).enc := by
  rw [splice_of (pre := (Atom.enc x.head : List Value)) (mid := [Sl.val x.body]) (post := ([] : List Value)) (by simp [GRule.enc]) (by simp [length_arr, length_arrS, GProgram.length_enc, Answer.length_enc, Term.length_enc, Atom.length_enc]) (by simp [length_arr, length_arrS, GProgram.length_enc, Answer.length_enc, Term.length_enc, Atom.length_enc])]
  simp [GRule.enc]
theorem GRule.head_pred_get (x : GRule) : nth x.enc 0 = some (.int .i64 x.head.pred) :=
  (get_sub (a := 0) (j := 0) (GRule.head_get x) (by simp [Atom.length_enc])).trans (Atom.pred_get _)
theorem GRule.head_pred_set (x : GRule) (y : Int) : splice x.enc 0 ([.int .i64 y]) = ({ x with head := { x.head with pred := y } } : GRule).enc := by
  rw [show 0 = 0 + 0 from rfl, splice_sub (GRule.head_get x) (by simp [GRule.length_enc]) (by simp [length_arr, length_arrS, GProgram.length_enc, Answer.length_enc, Term.length_enc, Atom.length_enc]), Atom.pred_set, GRule.head_set]
theorem GRule.head_args_get (x : GRule) : seg x.enc 1 8 = arrS Term.enc x.head.args :=
  (part_sub (a := 0) (j := 1) (GRule.head_get x) (by simp [Atom.length_enc])).trans (Atom.args_get _)
theorem GRule.head_args_set (x : GRule) (y : (Vector Term 4)) : splice x.enc 1 (arrS Term.enc y) = ({ x with head := { x.head with args := y } } : GRule).enc := by
  rw [show 1 = 0 + 1 from rfl, splice_sub (GRule.head_get x) (by simp [GRule.length_enc]) (by simp [length_arr, length_arrS, GProgram.length_enc, Answer.length_enc, Term.length_enc, Atom.length_enc]), Atom.args_set, GRule.head_set]

structure GOp where
  kind : Int
  pred : Int
  t : (Vector Int 4)
  n : Int
  base : Bool
  rule : GRule
def GOp.zero : GOp := ⟨0, 0, (Vector.replicate 4 0), 0, false, GRule.zero⟩
def GOp.enc (x : GOp) : List Value :=
  [.int .i64 x.kind] ++ ([.int .i64 x.pred] ++ (arr i64v x.t ++ ([.int .i64 x.n] ++ ([.bool x.base] ++ (GRule.enc x.rule)))))
theorem GOp.length_enc (x : GOp) : x.enc.length = 18 := by simp [GOp.enc, length_arr, length_arrS, GProgram.length_enc, Answer.length_enc, Term.length_enc, Atom.length_enc, GRule.length_enc]
theorem GOp.one_enc (x : GOp) : x.enc.all (fun v => v.oneCell') = true := by simp only [GOp.enc, List.all_append, List.all_cons, List.all_nil, oneC_int, oneC_bool, oneC_string, oneC_pointer, oneC_slice, Bool.and_true, Bool.true_and, implies_true, one_arr_u8, one_arr_u32, one_arr_u64, one_arr_i64, one_arr_bool, one_arr_str, one_arr_ptr, one_arr_sl, one_arrS, one_u8, one_u32, one_u64, one_i64, one_bool, one_str, one_sl, one_ptr, GProgram.one_enc, Answer.one_enc, Term.one_enc, Atom.one_enc, GRule.one_enc]
theorem GOp.ok_enc (x : GOp) : okCells 18 x.enc = true := ok_mk x.length_enc x.one_enc
theorem GOp.all_get (x : GOp) : seg x.enc 0 18 = x.enc := seg_all _ _ x.length_enc
theorem GOp.all_set (x y : GOp) : splice x.enc 0 y.enc = y.enc := splice_all _ _ (by rw [x.length_enc, y.length_enc])
theorem GOp.kind_get (x : GOp) : nth x.enc 0 = some (.int .i64 x.kind) := get_of (pre := ([] : List Value)) (post := ([.int .i64 x.pred] ++ arr i64v x.t ++ [.int .i64 x.n] ++ [.bool x.base] ++ GRule.enc x.rule : List Value)) (by simp [GOp.enc]) (by simp [length_arr, length_arrS, GProgram.length_enc, Answer.length_enc, Term.length_enc, Atom.length_enc, GRule.length_enc])
theorem GOp.kind_set (x : GOp) (y : Int) : splice x.enc 0 ([.int .i64 y]) = ({ x with kind := y } : GOp).enc := by
  rw [splice_of (pre := ([] : List Value)) (mid := [.int .i64 x.kind]) (post := ([.int .i64 x.pred] ++ arr i64v x.t ++ [.int .i64 x.n] ++ [.bool x.base] ++ GRule.enc x.rule : List Value)) (by simp [GOp.enc]) (by simp [length_arr, length_arrS, GProgram.length_enc, Answer.length_enc, Term.length_enc, Atom.length_enc, GRule.length_enc]) (by simp [length_arr, length_arrS, GProgram.length_enc, Answer.length_enc, Term.length_enc, Atom.length_enc, GRule.length_enc])]
  simp [GOp.enc]
theorem GOp.pred_get (x : GOp) : nth x.enc 1 = some (.int .i64 x.pred) := get_of (pre := ([.int .i64 x.kind] : List Value)) (post := (arr i64v x.t ++ [.int .i64 x.n] ++ [.bool x.base] ++ GRule.enc x.rule : List Value)) (by simp [GOp.enc]) (by simp [length_arr, length_arrS, GProgram.length_enc, Answer.length_enc, Term.length_enc, Atom.length_enc, GRule.length_enc])
theorem GOp.pred_set (x : GOp) (y : Int) : splice x.enc 1 ([.int .i64 y]) = ({ x with pred := y } : GOp).enc := by
  rw [splice_of (pre := ([.int .i64 x.kind] : List Value)) (mid := [.int .i64 x.pred]) (post := (arr i64v x.t ++ [.int .i64 x.n] ++ [.bool x.base] ++ GRule.enc x.rule : List Value)) (by simp [GOp.enc]) (by simp [length_arr, length_arrS, GProgram.length_enc, Answer.length_enc, Term.length_enc, Atom.length_enc, GRule.length_enc]) (by simp [length_arr, length_arrS, GProgram.length_enc, Answer.length_enc, Term.length_enc, Atom.length_enc, GRule.length_enc])]
  simp [GOp.enc]
theorem GOp.t_get (x : GOp) : seg x.enc 2 4 = arr i64v x.t := part_of (pre := ([.int .i64 x.kind] ++ [.int .i64 x.pred] : List Value)) (post := ([.int .i64 x.n] ++ [.bool x.base] ++ GRule.enc x.rule : List Value)) (by simp [GOp.enc]) (by simp [length_arr, length_arrS, GProgram.length_enc, Answer.length_enc, Term.length_enc, Atom.length_enc, GRule.length_enc]) (by simp [length_arr, length_arrS, GProgram.length_enc, Answer.length_enc, Term.length_enc, Atom.length_enc, GRule.length_enc])
theorem GOp.t_set (x : GOp) (y : (Vector Int 4)) : splice x.enc 2 (arr i64v y) = ({ x with t := y } : GOp).enc := by
  rw [splice_of (pre := ([.int .i64 x.kind] ++ [.int .i64 x.pred] : List Value)) (mid := arr i64v x.t) (post := ([.int .i64 x.n] ++ [.bool x.base] ++ GRule.enc x.rule : List Value)) (by simp [GOp.enc]) (by simp [length_arr, length_arrS, GProgram.length_enc, Answer.length_enc, Term.length_enc, Atom.length_enc, GRule.length_enc]) (by simp [length_arr, length_arrS, GProgram.length_enc, Answer.length_enc, Term.length_enc, Atom.length_enc, GRule.length_enc])]
  simp [GOp.enc]
theorem GOp.t_at (x : GOp) (i : Nat) (h : i < 4) : nth x.enc (2 + i) = some (.int .i64 x.t[i]) := by
  exact (get_sub (GOp.t_get x) (by simp [length_arr, length_arrS, GProgram.length_enc, Answer.length_enc, Term.length_enc, Atom.length_enc, GRule.length_enc]; omega)).trans (arr_at _ _ h)
theorem GOp.t_put (x : GOp) (i : Nat) (y : Int) (h : i < 4) : splice x.enc (2 + i) [.int .i64 y] = ({ x with t := x.t.set i y h } : GOp).enc := by
  rw [splice_sub (GOp.t_get x) (by simp [GOp.length_enc]) (by simp; omega)]
  rw [show ([.int .i64 y] : List Value) = [i64v y] from rfl, arr_put _ _ _ h, GOp.t_set]
theorem GOp.n_get (x : GOp) : nth x.enc 6 = some (.int .i64 x.n) := get_of (pre := ([.int .i64 x.kind] ++ [.int .i64 x.pred] ++ arr i64v x.t : List Value)) (post := ([.bool x.base] ++ GRule.enc x.rule : List Value)) (by simp [GOp.enc]) (by simp [length_arr, length_arrS, GProgram.length_enc, Answer.length_enc, Term.length_enc, Atom.length_enc, GRule.length_enc])
theorem GOp.n_set (x : GOp) (y : Int) : splice x.enc 6 ([.int .i64 y]) = ({ x with n := y } : GOp).enc := by
  rw [splice_of (pre := ([.int .i64 x.kind] ++ [.int .i64 x.pred] ++ arr i64v x.t : List Value)) (mid := [.int .i64 x.n]) (post := ([.bool x.base] ++ GRule.enc x.rule : List Value)) (by simp [GOp.enc]) (by simp [length_arr, length_arrS, GProgram.length_enc, Answer.length_enc, Term.length_enc, Atom.length_enc, GRule.length_enc]) (by simp [length_arr, length_arrS, GProgram.length_enc, Answer.length_enc, Term.length_enc, Atom.length_enc, GRule.length_enc])]
  simp [GOp.enc]
theorem GOp.base_get (x : GOp) : nth x.enc 7 = some (.bool x.base) := get_of (pre := ([.int .i64 x.kind] ++ [.int .i64 x.pred] ++ arr i64v x.t ++ [.int .i64 x.n] : List Value)) (post := (GRule.enc x.rule : List Value)) (by simp [GOp.enc]) (by simp [length_arr, length_arrS, GProgram.length_enc, Answer.length_enc, Term.length_enc, Atom.length_enc, GRule.length_enc])
theorem GOp.base_set (x : GOp) (y : Bool) : splice x.enc 7 ([.bool y]) = ({ x with base := y } : GOp).enc := by
  rw [splice_of (pre := ([.int .i64 x.kind] ++ [.int .i64 x.pred] ++ arr i64v x.t ++ [.int .i64 x.n] : List Value)) (mid := [.bool x.base]) (post := (GRule.enc x.rule : List Value)) (by simp [GOp.enc]) (by simp [length_arr, length_arrS, GProgram.length_enc, Answer.length_enc, Term.length_enc, Atom.length_enc, GRule.length_enc]) (by simp [length_arr, length_arrS, GProgram.length_enc, Answer.length_enc, Term.length_enc, Atom.length_enc, GRule.length_enc])]
  simp [GOp.enc]
theorem GOp.rule_get (x : GOp) : seg x.enc 8 10 = GRule.enc x.rule := part_of (pre := ([.int .i64 x.kind] ++ [.int .i64 x.pred] ++ arr i64v x.t ++ [.int .i64 x.n] ++ [.bool x.base] : List Value)) (post := ([] : List Value)) (by simp [GOp.enc]) (by simp [length_arr, length_arrS, GProgram.length_enc, Answer.length_enc, Term.length_enc, Atom.length_enc, GRule.length_enc]) (by simp [length_arr, length_arrS, GProgram.length_enc, Answer.length_enc, Term.length_enc, Atom.length_enc, GRule.length_enc])
theorem GOp.rule_set (x : GOp) (y : GRule) : splice x.enc 8 (GRule.enc y) = ({ x with rule := y } : GOp).enc := by
  rw [splice_of (pre := ([.int .i64 x.kind] ++ [.int .i64 x.pred] ++ arr i64v x.t ++ [.int .i64 x.n] ++ [.bool x.base] : List Value)) (mid := GRule.enc x.rule) (post := ([] : List Value)) (by simp [GOp.enc]) (by simp [length_arr, length_arrS, GProgram.length_enc, Answer.length_enc, Term.length_enc, Atom.length_enc, GRule.length_enc]) (by simp [length_arr, length_arrS, GProgram.length_enc, Answer.length_enc, Term.length_enc, Atom.length_enc, GRule.length_enc])]
  simp [GOp.enc]
theorem GOp.rule_head_get (x : GOp) : seg x.enc 8 9 = Atom.enc x.rule.head :=
  (part_sub (a := 8) (j := 0) (GOp.rule_get x) (by simp [GRule.length_enc])).trans (GRule.head_get _)
theorem GOp.rule_head_set (x : GOp) (y : Atom) : splice x.enc 8 (Atom.enc y) = ({ x with rule := { x.rule with head := y } } : GOp).enc := by
  rw [show 8 = 8 + 0 from rfl, splice_sub (GOp.rule_get x) (by simp [GOp.length_enc]) (by simp [length_arr, length_arrS, GProgram.length_enc, Answer.length_enc, Term.length_enc, Atom.length_enc, GRule.length_enc]), GRule.head_set, GOp.rule_set]
theorem GOp.rule_body_get (x : GOp) : nth x.enc 17 = some (Sl.val x.rule.body) :=
  (get_sub (a := 8) (j := 9) (GOp.rule_get x) (by simp [GRule.length_enc])).trans (GRule.body_get _)
theorem GOp.rule_body_set (x : GOp) (y : Sl) : splice x.enc 17 ([Sl.val y]) = ({ x with rule := { x.rule with body := y } } : GOp).enc := by
  rw [show 17 = 8 + 9 from rfl, splice_sub (GOp.rule_get x) (by simp [GOp.length_enc]) (by simp [length_arr, length_arrS, GProgram.length_enc, Answer.length_enc, Term.length_enc, Atom.length_enc, GRule.length_enc]), GRule.body_set, GOp.rule_set]
theorem GOp.rule_head_pred_get (x : GOp) : nth x.enc 8 = some (.int .i64 x.rule.head.pred) :=
  (get_sub (a := 8) (j := 0) (GOp.rule_get x) (by simp [GRule.length_enc])).trans (GRule.head_pred_get _)
theorem GOp.rule_head_pred_set (x : GOp) (y : Int) : splice x.enc 8 ([.int .i64 y]) = ({ x with rule := { x.rule with head := { x.rule.head with pred := y } } } : GOp).enc := by
  rw [show 8 = 8 + 0 from rfl, splice_sub (GOp.rule_get x) (by simp [GOp.length_enc]) (by simp [length_arr, length_arrS, GProgram.length_enc, Answer.length_enc, Term.length_enc, Atom.length_enc, GRule.length_enc]), GRule.head_pred_set, GOp.rule_set]
theorem GOp.rule_head_args_get (x : GOp) : seg x.enc 9 8 = arrS Term.enc x.rule.head.args :=
  (part_sub (a := 8) (j := 1) (GOp.rule_get x) (by simp [GRule.length_enc])).trans (GRule.head_args_get _)
theorem GOp.rule_head_args_set (x : GOp) (y : (Vector Term 4)) : splice x.enc 9 (arrS Term.enc y) = ({ x with rule := { x.rule with head := { x.rule.head with args := y } } } : GOp).enc := by
  rw [show 9 = 8 + 1 from rfl, splice_sub (GOp.rule_get x) (by simp [GOp.length_enc]) (by simp [length_arr, length_arrS, GProgram.length_enc, Answer.length_enc, Term.length_enc, Atom.length_enc, GRule.length_enc]), GRule.head_args_set, GOp.rule_set]

structure PredInfo where
  arity : Int
  base : Bool
  stratum : Int
def PredInfo.zero : PredInfo := ⟨0, false, 0⟩
def PredInfo.enc (x : PredInfo) : List Value :=
  [.int .i64 x.arity] ++ ([.bool x.base] ++ ([.int .i64 x.stratum]))
theorem PredInfo.length_enc (x : PredInfo) : x.enc.length = 3 := by simp [PredInfo.enc, length_arr, length_arrS, GProgram.length_enc, Answer.length_enc, Term.length_enc, Atom.length_enc, GRule.length_enc, GOp.length_enc]
theorem PredInfo.one_enc (x : PredInfo) : x.enc.all (fun v => v.oneCell') = true := by simp only [PredInfo.enc, List.all_append, List.all_cons, List.all_nil, oneC_int, oneC_bool, oneC_string, oneC_pointer, oneC_slice, Bool.and_true, Bool.true_and, implies_true, one_arr_u8, one_arr_u32, one_arr_u64, one_arr_i64, one_arr_bool, one_arr_str, one_arr_ptr, one_arr_sl, one_arrS, one_u8, one_u32, one_u64, one_i64, one_bool, one_str, one_sl, one_ptr, GProgram.one_enc, Answer.one_enc, Term.one_enc, Atom.one_enc, GRule.one_enc, GOp.one_enc]
theorem PredInfo.ok_enc (x : PredInfo) : okCells 3 x.enc = true := ok_mk x.length_enc x.one_enc
theorem PredInfo.all_get (x : PredInfo) : seg x.enc 0 3 = x.enc := seg_all _ _ x.length_enc
theorem PredInfo.all_set (x y : PredInfo) : splice x.enc 0 y.enc = y.enc := splice_all _ _ (by rw [x.length_enc, y.length_enc])
theorem PredInfo.arity_get (x : PredInfo) : nth x.enc 0 = some (.int .i64 x.arity) := get_of (pre := ([] : List Value)) (post := ([.bool x.base] ++ [.int .i64 x.stratum] : List Value)) (by simp [PredInfo.enc]) (by simp [length_arr, length_arrS, GProgram.length_enc, Answer.length_enc, Term.length_enc, Atom.length_enc, GRule.length_enc, GOp.length_enc])
theorem PredInfo.arity_set (x : PredInfo) (y : Int) : splice x.enc 0 ([.int .i64 y]) = ({ x with arity := y } : PredInfo).enc := by
  rw [splice_of (pre := ([] : List Value)) (mid := [.int .i64 x.arity]) (post := ([.bool x.base] ++ [.int .i64 x.stratum] : List Value)) (by simp [PredInfo.enc]) (by simp [length_arr, length_arrS, GProgram.length_enc, Answer.length_enc, Term.length_enc, Atom.length_enc, GRule.length_enc, GOp.length_enc]) (by simp [length_arr, length_arrS, GProgram.length_enc, Answer.length_enc, Term.length_enc, Atom.length_enc, GRule.length_enc, GOp.length_enc])]
  simp [PredInfo.enc]
theorem PredInfo.base_get (x : PredInfo) : nth x.enc 1 = some (.bool x.base) := get_of (pre := ([.int .i64 x.arity] : List Value)) (post := ([.int .i64 x.stratum] : List Value)) (by simp [PredInfo.enc]) (by simp [length_arr, length_arrS, GProgram.length_enc, Answer.length_enc, Term.length_enc, Atom.length_enc, GRule.length_enc, GOp.length_enc])
theorem PredInfo.base_set (x : PredInfo) (y : Bool) : splice x.enc 1 ([.bool y]) = ({ x with base := y } : PredInfo).enc := by
  rw [splice_of (pre := ([.int .i64 x.arity] : List Value)) (mid := [.bool x.base]) (post := ([.int .i64 x.stratum] : List Value)) (by simp [PredInfo.enc]) (by simp [length_arr, length_arrS, GProgram.length_enc, Answer.length_enc, Term.length_enc, Atom.length_enc, GRule.length_enc, GOp.length_enc]) (by simp [length_arr, length_arrS, GProgram.length_enc, Answer.length_enc, Term.length_enc, Atom.length_enc, GRule.length_enc, GOp.length_enc])]
  simp [PredInfo.enc]
theorem PredInfo.stratum_get (x : PredInfo) : nth x.enc 2 = some (.int .i64 x.stratum) := get_of (pre := ([.int .i64 x.arity] ++ [.bool x.base] : List Value)) (post := ([] : List Value)) (by simp [PredInfo.enc]) (by simp [length_arr, length_arrS, GProgram.length_enc, Answer.length_enc, Term.length_enc, Atom.length_enc, GRule.length_enc, GOp.length_enc])
theorem PredInfo.stratum_set (x : PredInfo) (y : Int) : splice x.enc 2 ([.int .i64 y]) = ({ x with stratum := y } : PredInfo).enc := by
  rw [splice_of (pre := ([.int .i64 x.arity] ++ [.bool x.base] : List Value)) (mid := [.int .i64 x.stratum]) (post := ([] : List Value)) (by simp [PredInfo.enc]) (by simp [length_arr, length_arrS, GProgram.length_enc, Answer.length_enc, Term.length_enc, Atom.length_enc, GRule.length_enc, GOp.length_enc]) (by simp [length_arr, length_arrS, GProgram.length_enc, Answer.length_enc, Term.length_enc, Atom.length_enc, GRule.length_enc, GOp.length_enc])]
  simp [PredInfo.enc]

structure GStats where
  rounds : Int
  fired : Int
  emitted : Int
  fresh : Int
def GStats.zero : GStats := ⟨0, 0, 0, 0⟩
def GStats.enc (x : GStats) : List Value :=
  [.int .i64 x.rounds] ++ ([.int .i64 x.fired] ++ ([.int .i64 x.emitted] ++ ([.int .i64 x.fresh])))
theorem GStats.length_enc (x : GStats) : x.enc.length = 4 := by simp [GStats.enc, length_arr, length_arrS, GProgram.length_enc, Answer.length_enc, Term.length_enc, Atom.length_enc, GRule.length_enc, GOp.length_enc, PredInfo.length_enc]
theorem GStats.one_enc (x : GStats) : x.enc.all (fun v => v.oneCell') = true := by simp only [GStats.enc, List.all_append, List.all_cons, List.all_nil, oneC_int, oneC_bool, oneC_string, oneC_pointer, oneC_slice, Bool.and_true, Bool.true_and, implies_true, one_arr_u8, one_arr_u32, one_arr_u64, one_arr_i64, one_arr_bool, one_arr_str, one_arr_ptr, one_arr_sl, one_arrS, one_u8, one_u32, one_u64, one_i64, one_bool, one_str, one_sl, one_ptr, GProgram.one_enc, Answer.one_enc, Term.one_enc, Atom.one_enc, GRule.one_enc, GOp.one_enc, PredInfo.one_enc]
theorem GStats.ok_enc (x : GStats) : okCells 4 x.enc = true := ok_mk x.length_enc x.one_enc
theorem GStats.all_get (x : GStats) : seg x.enc 0 4 = x.enc := seg_all _ _ x.length_enc
theorem GStats.all_set (x y : GStats) : splice x.enc 0 y.enc = y.enc := splice_all _ _ (by rw [x.length_enc, y.length_enc])
theorem GStats.rounds_get (x : GStats) : nth x.enc 0 = some (.int .i64 x.rounds) := get_of (pre := ([] : List Value)) (post := ([.int .i64 x.fired] ++ [.int .i64 x.emitted] ++ [.int .i64 x.fresh] : List Value)) (by simp [GStats.enc]) (by simp [length_arr, length_arrS, GProgram.length_enc, Answer.length_enc, Term.length_enc, Atom.length_enc, GRule.length_enc, GOp.length_enc, PredInfo.length_enc])
theorem GStats.rounds_set (x : GStats) (y : Int) : splice x.enc 0 ([.int .i64 y]) = ({ x with rounds := y } : GStats).enc := by
  rw [splice_of (pre := ([] : List Value)) (mid := [.int .i64 x.rounds]) (post := ([.int .i64 x.fired] ++ [.int .i64 x.emitted] ++ [.int .i64 x.fresh] : List Value)) (by simp [GStats.enc]) (by simp [length_arr, length_arrS, GProgram.length_enc, Answer.length_enc, Term.length_enc, Atom.length_enc, GRule.length_enc, GOp.length_enc, PredInfo.length_enc]) (by simp [length_arr, length_arrS, GProgram.length_enc, Answer.length_enc, Term.length_enc, Atom.length_enc, GRule.length_enc, GOp.length_enc, PredInfo.length_enc])]
  simp [GStats.enc]
theorem GStats.fired_get (x : GStats) : nth x.enc 1 = some (.int .i64 x.fired) := get_of (pre := ([.int .i64 x.rounds] : List Value)) (post := ([.int .i64 x.emitted] ++ [.int .i64 x.fresh] : List Value)) (by simp [GStats.enc]) (by simp [length_arr, length_arrS, GProgram.length_enc, Answer.length_enc, Term.length_enc, Atom.length_enc, GRule.length_enc, GOp.length_enc, PredInfo.length_enc])
theorem GStats.fired_set (x : GStats) (y : Int) : splice x.enc 1 ([.int .i64 y]) = ({ x with fired := y } : GStats).enc := by
  rw [splice_of (pre := ([.int .i64 x.rounds] : List Value)) (mid := [.int .i64 x.fired]) (post := ([.int .i64 x.emitted] ++ [.int .i64 x.fresh] : List Value)) (by simp [GStats.enc]) (by simp [length_arr, length_arrS, GProgram.length_enc, Answer.length_enc, Term.length_enc, Atom.length_enc, GRule.length_enc, GOp.length_enc, PredInfo.length_enc]) (by simp [length_arr, length_arrS, GProgram.length_enc, Answer.length_enc, Term.length_enc, Atom.length_enc, GRule.length_enc, GOp.length_enc, PredInfo.length_enc])]
  simp [GStats.enc]
theorem GStats.emitted_get (x : GStats) : nth x.enc 2 = some (.int .i64 x.emitted) := get_of (pre := ([.int .i64 x.rounds] ++ [.int .i64 x.fired] : List Value)) (post := ([.int .i64 x.fresh] : List Value)) (by simp [GStats.enc]) (by simp [length_arr, length_arrS, GProgram.length_enc, Answer.length_enc, Term.length_enc, Atom.length_enc, GRule.length_enc, GOp.length_enc, PredInfo.length_enc])
theorem GStats.emitted_set (x : GStats) (y : Int) : splice x.enc 2 ([.int .i64 y]) = ({ x with emitted := y } : GStats).enc := by
  rw [splice_of (pre := ([.int .i64 x.rounds] ++ [.int .i64 x.fired] : List Value)) (mid := [.int .i64 x.emitted]) (post := ([.int .i64 x.fresh] : List Value)) (by simp [GStats.enc]) (by simp [length_arr, length_arrS, GProgram.length_enc, Answer.length_enc, Term.length_enc, Atom.length_enc, GRule.length_enc, GOp.length_enc, PredInfo.length_enc]) (by simp [length_arr, length_arrS, GProgram.length_enc, Answer.length_enc, Term.length_enc, Atom.length_enc, GRule.length_enc, GOp.length_enc, PredInfo.length_enc])]
  simp [GStats.enc]
theorem GStats.fresh_get (x : GStats) : nth x.enc 3 = some (.int .i64 x.fresh) := get_of (pre := ([.int .i64 x.rounds] ++ [.int .i64 x.fired] ++ [.int .i64 x.emitted] : List Value)) (post := ([] : List Value)) (by simp [GStats.enc]) (by simp [length_arr, length_arrS, GProgram.length_enc, Answer.length_enc, Term.length_enc, Atom.length_enc, GRule.length_enc, GOp.length_enc, PredInfo.length_enc])
theorem GStats.fresh_set (x : GStats) (y : Int) : splice x.enc 3 ([.int .i64 y]) = ({ x with fresh := y } : GStats).enc := by
  rw [splice_of (pre := ([.int .i64 x.rounds] ++ [.int .i64 x.fired] ++ [.int .i64 x.emitted] : List Value)) (mid := [.int .i64 x.fresh]) (post := ([] : List Value)) (by simp [GStats.enc]) (by simp [length_arr, length_arrS, GProgram.length_enc, Answer.length_enc, Term.length_enc, Atom.length_enc, GRule.length_enc, GOp.length_enc, PredInfo.length_enc]) (by simp [length_arr, length_arrS, GProgram.length_enc, Answer.length_enc, Term.length_enc, Atom.length_enc, GRule.length_enc, GOp.length_enc, PredInfo.length_enc])]
  simp [GStats.enc]

structure Literal where
  neg : Bool
  atom : Atom
def Literal.zero : Literal := ⟨false, Atom.zero⟩
def Literal.enc (x : Literal) : List Value :=
  [.bool x.neg] ++ (Atom.enc x.atom)
theorem Literal.length_enc (x : Literal) : x.enc.length = 10 := by simp [Literal.enc, length_arr, length_arrS, GProgram.length_enc, Answer.length_enc, Term.length_enc, Atom.length_enc, GRule.length_enc, GOp.length_enc, PredInfo.length_enc, GStats.length_enc]
theorem Literal.one_enc (x : Literal) : x.enc.all (fun v => v.oneCell') = true := by simp only [Literal.enc, List.all_append, List.all_cons, List.all_nil, oneC_int, oneC_bool, oneC_string, oneC_pointer, oneC_slice, Bool.and_true, Bool.true_and, implies_true, one_arr_u8, one_arr_u32, one_arr_u64, one_arr_i64, one_arr_bool, one_arr_str, one_arr_ptr, one_arr_sl, one_arrS, one_u8, one_u32, one_u64, one_i64, one_bool, one_str, one_sl, one_ptr, GProgram.one_enc, Answer.one_enc, Term.one_enc, Atom.one_enc, GRule.one_enc, GOp.one_enc, PredInfo.one_enc, GStats.one_enc]
theorem Literal.ok_enc (x : Literal) : okCells 10 x.enc = true := ok_mk x.length_enc x.one_enc
theorem Literal.all_get (x : Literal) : seg x.enc 0 10 = x.enc := seg_all _ _ x.length_enc
theorem Literal.all_set (x y : Literal) : splice x.enc 0 y.enc = y.enc := splice_all _ _ (by rw [x.length_enc, y.length_enc])
theorem Literal.neg_get (x : Literal) : nth x.enc 0 = some (.bool x.neg) := get_of (pre := ([] : List Value)) (post := (Atom.enc x.atom : List Value)) (by simp [Literal.enc]) (by simp [length_arr, length_arrS, GProgram.length_enc, Answer.length_enc, Term.length_enc, Atom.length_enc, GRule.length_enc, GOp.length_enc, PredInfo.length_enc, GStats.length_enc])
theorem Literal.neg_set (x : Literal) (y : Bool) : splice x.enc 0 ([.bool y]) = ({ x with neg := y } : Literal).enc := by
  rw [splice_of (pre := ([] : List Value)) (mid := [.bool x.neg]) (post := (Atom.enc x.atom : List Value)) (by simp [Literal.enc]) (by simp [length_arr, length_arrS, GProgram.length_enc, Answer.length_enc, Term.length_enc, Atom.length_enc, GRule.length_enc, GOp.length_enc, PredInfo.length_enc, GStats.length_enc]) (by simp [length_arr, length_arrS, GProgram.length_enc, Answer.length_enc, Term.length_enc, Atom.length_enc, GRule.length_enc, GOp.length_enc, PredInfo.length_enc, GStats.length_enc])]
  simp [Literal.enc]
theorem Literal.atom_get (x : Literal) : seg x.enc 1 9 = Atom.enc x.atom := part_of (pre := ([.bool x.neg] : List Value)) (post := ([] : List Value)) (by simp [Literal.enc]) (by simp [length_arr, length_arrS, GProgram.length_enc, Answer.length_enc, Term.length_enc, Atom.length_enc, GRule.length_enc, GOp.length_enc, PredInfo.length_enc, GStats.length_enc]) (by simp [length_arr, length_arrS, GProgram.length_enc, Answer.length_enc, Term.length_enc, Atom.length_enc, GRule.length_enc, GOp.length_enc, PredInfo.length_enc, GStats.length_enc])
theorem Literal.atom_set (x : Literal) (y : Atom) : splice x.enc 1 (Atom.enc y) = ({ x with atom := y } : Literal).enc := by
  rw [splice_of (pre := ([.bool x.neg] : List Value)) (mid := Atom.enc x.atom) (post := ([] : List Value)) (by simp [Literal.enc]) (by simp [length_arr, length_arrS, GProgram.length_enc, Answer.length_enc, Term.length_enc, Atom.length_enc, GRule.length_enc, GOp.length_enc, PredInfo.length_enc, GStats.length_enc]) (by simp [length_arr, length_arrS, GProgram.length_enc, Answer.length_enc, Term.length_enc, Atom.length_enc, GRule.length_enc, GOp.length_enc, PredInfo.length_enc, GStats.length_enc])]
  simp [Literal.enc]
theorem Literal.atom_pred_get (x : Literal) : nth x.enc 1 = some (.int .i64 x.atom.pred) :=
  (get_sub (a := 1) (j := 0) (Literal.atom_get x) (by simp [Atom.length_enc])).trans (Atom.pred_get _)
theorem Literal.atom_pred_set (x : Literal) (y : Int) : splice x.enc 1 ([.int .i64 y]) = ({ x with atom := { x.atom with pred := y } } : Literal).enc := by
  rw [show 1 = 1 + 0 from rfl, splice_sub (Literal.atom_get x) (by simp [Literal.length_enc]) (by simp [length_arr, length_arrS, GProgram.length_enc, Answer.length_enc, Term.length_enc, Atom.length_enc, GRule.length_enc, GOp.length_enc, PredInfo.length_enc, GStats.length_enc]), Atom.pred_set, Literal.atom_set]
theorem Literal.atom_args_get (x : Literal) : seg x.enc 2 8 = arrS Term.enc x.atom.args :=
  (part_sub (a := 1) (j := 1) (Literal.atom_get x) (by simp [Atom.length_enc])).trans (Atom.args_get _)
theorem Literal.atom_args_set (x : Literal) (y : (Vector Term 4)) : splice x.enc 2 (arrS Term.enc y) = ({ x with atom := { x.atom with args := y } } : Literal).enc := by
  rw [show 2 = 1 + 1 from rfl, splice_sub (Literal.atom_get x) (by simp [Literal.length_enc]) (by simp [length_arr, length_arrS, GProgram.length_enc, Answer.length_enc, Term.length_enc, Atom.length_enc, GRule.length_enc, GOp.length_enc, PredInfo.length_enc, GStats.length_enc]), Atom.args_set, Literal.atom_set]

structure Engine where
  prog : GProgram
  st : (Option Addr)
  levels : Sl
  running : Bool
  stratum : Int
  round : Int
  saved : Sl
  stats : GStats
def Engine.zero : Engine := ⟨GProgram.zero, none, ⟨none, 0, 0⟩, false, 0, 0, ⟨none, 0, 0⟩, GStats.zero⟩
def Engine.enc (x : Engine) : List Value :=
  GProgram.enc x.prog ++ ([.pointer x.st] ++ ([Sl.val x.levels] ++ ([.bool x.running] ++ ([.int .i64 x.stratum] ++ ([.int .i64 x.round] ++ ([Sl.val x.saved] ++ (GStats.enc x.stats)))))))
theorem Engine.length_enc (x : Engine) : x.enc.length = 13 := by simp [Engine.enc, length_arr, length_arrS, GProgram.length_enc, Answer.length_enc, Term.length_enc, Atom.length_enc, GRule.length_enc, GOp.length_enc, PredInfo.length_enc, GStats.length_enc, Literal.length_enc]
theorem Engine.one_enc (x : Engine) : x.enc.all (fun v => v.oneCell') = true := by simp only [Engine.enc, List.all_append, List.all_cons, List.all_nil, oneC_int, oneC_bool, oneC_string, oneC_pointer, oneC_slice, Bool.and_true, Bool.true_and, implies_true, one_arr_u8, one_arr_u32, one_arr_u64, one_arr_i64, one_arr_bool, one_arr_str, one_arr_ptr, one_arr_sl, one_arrS, one_u8, one_u32, one_u64, one_i64, one_bool, one_str, one_sl, one_ptr, GProgram.one_enc, Answer.one_enc, Term.one_enc, Atom.one_enc, GRule.one_enc, GOp.one_enc, PredInfo.one_enc, GStats.one_enc, Literal.one_enc]
theorem Engine.ok_enc (x : Engine) : okCells 13 x.enc = true := ok_mk x.length_enc x.one_enc
theorem Engine.all_get (x : Engine) : seg x.enc 0 13 = x.enc := seg_all _ _ x.length_enc
theorem Engine.all_set (x y : Engine) : splice x.enc 0 y.enc = y.enc := splice_all _ _ (by rw [x.length_enc, y.length_enc])
theorem Engine.prog_get (x : Engine) : seg x.enc 0 3 = GProgram.enc x.prog := part_of (pre := ([] : List Value)) (post := ([.pointer x.st] ++ [Sl.val x.levels] ++ [.bool x.running] ++ [.int .i64 x.stratum] ++ [.int .i64 x.round] ++ [Sl.val x.saved] ++ GStats.enc x.stats : List Value)) (by simp [Engine.enc]) (by simp [length_arr, length_arrS, GProgram.length_enc, Answer.length_enc, Term.length_enc, Atom.length_enc, GRule.length_enc, GOp.length_enc, PredInfo.length_enc, GStats.length_enc, Literal.length_enc]) (by simp [length_arr, length_arrS, GProgram.length_enc, Answer.length_enc, Term.length_enc, Atom.length_enc, GRule.length_enc, GOp.length_enc, PredInfo.length_enc, GStats.length_enc, Literal.length_enc])
theorem Engine.prog_set (x : Engine) (y : GProgram) : splice x.enc 0 (GProgram.enc y) = ({ x with prog := y } : Engine).enc := by
  rw [splice_of (pre := ([] : List Value)) (mid := GProgram.enc x.prog) (post := ([.pointer x.st] ++ [Sl.val x.levels] ++ [.bool x.running] ++ [.int .i64 x.stratum] ++ [.int .i64 x.round] ++ [Sl.val x.saved] ++ GStats.enc x.stats : List Value)) (by simp [Engine.enc]) (by simp [length_arr, length_arrS, GProgram.length_enc, Answer.length_enc, Term.length_enc, Atom.length_enc, GRule.length_enc, GOp.length_enc, PredInfo.length_enc, GStats.length_enc, Literal.length_enc]) (by simp [length_arr, length_arrS, GProgram.length_enc, Answer.length_enc, Term.length_enc, Atom.length_enc, GRule.length_enc, GOp.length_enc, PredInfo.length_enc, GStats.length_enc, Literal.length_enc])]
  simp [Engine.enc]
theorem Engine.st_get (x : Engine) : nth x.enc 3 = some (.pointer x.st) := get_of (pre := (GProgram.enc x.prog : List Value)) (post := ([Sl.val x.levels] ++ [.bool x.running] ++ [.int .i64 x.stratum] ++ [.int .i64 x.round] ++ [Sl.val x.saved] ++ GStats.enc x.stats : List Value)) (by simp [Engine.enc]) (by simp [length_arr, length_arrS, GProgram.length_enc, Answer.length_enc, Term.length_enc, Atom.length_enc, GRule.length_enc, GOp.length_enc, PredInfo.length_enc, GStats.length_enc, Literal.length_enc])
theorem Engine.st_set (x : Engine) (y : (Option Addr)) : splice x.enc 3 ([.pointer y]) = ({ x with st := y } : Engine).enc := by
  rw [splice_of (pre := (GProgram.enc x.prog : List Value)) (mid := [.pointer x.st]) (post := ([Sl.val x.levels] ++ [.bool x.running] ++ [.int .i64 x.stratum] ++ [.int .i64 x.round] ++ [Sl.val x.saved] ++ GStats.enc x.stats : List Value)) (by simp [Engine.enc]) (by simp [length_arr, length_arrS, GProgram.length_enc, Answer.length_enc, Term.length_enc, Atom.length_enc, GRule.length_enc, GOp.length_enc, PredInfo.length_enc, GStats.length_enc, Literal.length_enc]) (by simp [length_arr, length_arrS, GProgram.length_enc, Answer.length_enc, Term.length_enc, Atom.length_enc, GRule.length_enc, GOp.length_enc, PredInfo.length_enc, GStats.length_enc, Literal.length_enc])]
  simp [Engine.enc]
theorem Engine.levels_get (x : Engine) : nth x.enc 4 = some (Sl.val x.levels) := get_of (pre := (GProgram.enc x.prog ++ [.pointer x.st] : List Value)) (post := ([.bool x.running] ++ [.int .i64 x.stratum] ++ [.int .i64 x.round] ++ [Sl.val x.saved] ++ GStats.enc x.stats : List Value)) (by simp [Engine.enc]) (by simp [length_arr, length_arrS, GProgram.length_enc, Answer.length_enc, Term.length_enc, Atom.length_enc, GRule.length_enc, GOp.length_enc, PredInfo.length_enc, GStats.length_enc, Literal.length_enc])
theorem Engine.levels_set (x : Engine) (y : Sl) : splice x.enc 4 ([Sl.val y]) = ({ x with levels := y } : Engine).enc := by
  rw [splice_of (pre := (GProgram.enc x.prog ++ [.pointer x.st] : List Value)) (mid := [Sl.val x.levels]) (post := ([.bool x.running] ++ [.int .i64 x.stratum] ++ [.int .i64 x.round] ++ [Sl.val x.saved] ++ GStats.enc x.stats : List Value)) (by simp [Engine.enc]) (by simp [length_arr, length_arrS, GProgram.length_enc, Answer.length_enc, Term.length_enc, Atom.length_enc, GRule.length_enc, GOp.length_enc, PredInfo.length_enc, GStats.length_enc, Literal.length_enc]) (by simp [length_arr, length_arrS, GProgram.length_enc, Answer.length_enc, Term.length_enc, Atom.length_enc, GRule.length_enc, GOp.length_enc, PredInfo.length_enc, GStats.length_enc, Literal.length_enc])]
  simp [Engine.enc]
theorem Engine.running_get (x : Engine) : nth x.enc 5 = some (.bool x.running) := get_of (pre := (GProgram.enc x.prog ++ [.pointer x.st] ++ [Sl.val x.levels] : List Value)) (post := ([.int .i64 x.stratum] ++ [.int .i64 x.round] ++ [Sl.val x.saved] ++ GStats.enc x.stats : List Value)) (by simp [Engine.enc]) (by simp [length_arr, length_arrS, GProgram.length_enc, Answer.length_enc, Term.length_enc, Atom.length_enc, GRule.length_enc, GOp.length_enc, PredInfo.length_enc, GStats.length_enc, Literal.length_enc])
theorem Engine.running_set (x : Engine) (y : Bool) : splice x.enc 5 ([.bool y]) = ({ x with running := y } : Engine).enc := by
  rw [splice_of (pre := (GProgram.enc x.prog ++ [.pointer x.st] ++ [Sl.val x.levels] : List Value)) (mid := [.bool x.running]) (post := ([.int .i64 x.stratum] ++ [.int .i64 x.round] ++ [Sl.val x.saved] ++ GStats.enc x.stats : List Value)) (by simp [Engine.enc]) (by simp [length_arr, length_arrS, GProgram.length_enc, Answer.length_enc, Term.length_enc, Atom.length_enc, GRule.length_enc, GOp.length_enc, PredInfo.length_enc, GStats.length_enc, Literal.length_enc]) (by simp [length_arr, length_arrS, GProgram.length_enc, Answer.length_enc, Term.length_enc, Atom.length_enc, GRule.length_enc, GOp.length_enc, PredInfo.length_enc, GStats.length_enc, Literal.length_enc])]
  simp [Engine.enc]
theorem Engine.stratum_get (x : Engine) : nth x.enc 6 = some (.int .i64 x.stratum) := get_of (pre := (GProgram.enc x.prog ++ [.pointer x.st] ++ [Sl.val x.levels] ++ [.bool x.running] : List Value)) (post := ([.int .i64 x.round] ++ [Sl.val x.saved] ++ GStats.enc x.stats : List Value)) (by simp [Engine.enc]) (by simp [length_arr, length_arrS, GProgram.length_enc, Answer.length_enc, Term.length_enc, Atom.length_enc, GRule.length_enc, GOp.length_enc, PredInfo.length_enc, GStats.length_enc, Literal.length_enc])
theorem Engine.stratum_set (x : Engine) (y : Int) : splice x.enc 6 ([.int .i64 y]) = ({ x with stratum := y } : Engine).enc := by
  rw [splice_of (pre := (GProgram.enc x.prog ++ [.pointer x.st] ++ [Sl.val x.levels] ++ [.bool x.running] : List Value)) (mid := [.int .i64 x.stratum]) (post := ([.int .i64 x.round] ++ [Sl.val x.saved] ++ GStats.enc x.stats : List Value)) (by simp [Engine.enc]) (by simp [length_arr, length_arrS, GProgram.length_enc, Answer.length_enc, Term.length_enc, Atom.length_enc, GRule.length_enc, GOp.length_enc, PredInfo.length_enc, GStats.length_enc, Literal.length_enc]) (by simp [length_arr, length_arrS, GProgram.length_enc, Answer.length_enc, Term.length_enc, Atom.length_enc, GRule.length_enc, GOp.length_enc, PredInfo.length_enc, GStats.length_enc, Literal.length_enc])]
  simp [Engine.enc]
theorem Engine.round_get (x : Engine) : nth x.enc 7 = some (.int .i64 x.round) := get_of (pre := (GProgram.enc x.prog ++ [.pointer x.st] ++ [Sl.val x.levels] ++ [.bool x.running] ++ [.int .i64 x.stratum] : List Value)) (post := ([Sl.val x.saved] ++ GStats.enc x.stats : List Value)) (by simp [Engine.enc]) (by simp [length_arr, length_arrS, GProgram.length_enc, Answer.length_enc, Term.length_enc, Atom.length_enc, GRule.length_enc, GOp.length_enc, PredInfo.length_enc, GStats.length_enc, Literal.length_enc])
theorem Engine.round_set (x : Engine) (y : Int) : splice x.enc 7 ([.int .i64 y]) = ({ x with round := y } : Engine).enc := by
  rw [splice_of (pre := (GProgram.enc x.prog ++ [.pointer x.st] ++ [Sl.val x.levels] ++ [.bool x.running] ++ [.int .i64 x.stratum] : List Value)) (mid := [.int .i64 x.round]) (post := ([Sl.val x.saved] ++ GStats.enc x.stats : List Value)) (by simp [Engine.enc]) (by simp [length_arr, length_arrS, GProgram.length_enc, Answer.length_enc, Term.length_enc, Atom.length_enc, GRule.length_enc, GOp.length_enc, PredInfo.length_enc, GStats.length_enc, Literal.length_enc]) (by simp [length_arr, length_arrS, GProgram.length_enc, Answer.length_enc, Term.length_enc, Atom.length_enc, GRule.length_enc, GOp.length_enc, PredInfo.length_enc, GStats.length_enc, Literal.length_enc])]
  simp [Engine.enc]
theorem Engine.saved_get (x : Engine) : nth x.enc 8 = some (Sl.val x.saved) := get_of (pre := (GProgram.enc x.prog ++ [.pointer x.st] ++ [Sl.val x.levels] ++ [.bool x.running] ++ [.int .i64 x.stratum] ++ [.int .i64 x.round] : List Value)) (post := (GStats.enc x.stats : List Value)) (by simp [Engine.enc]) (by simp [length_arr, length_arrS, GProgram.length_enc, Answer.length_enc, Term.length_enc, Atom.length_enc, GRule.length_enc, GOp.length_enc, PredInfo.length_enc, GStats.length_enc, Literal.length_enc])
theorem Engine.saved_set (x : Engine) (y : Sl) : splice x.enc 8 ([Sl.val y]) = ({ x with saved := y } : Engine).enc := by
  rw [splice_of (pre := (GProgram.enc x.prog ++ [.pointer x.st] ++ [Sl.val x.levels] ++ [.bool x.running] ++ [.int .i64 x.stratum] ++ [.int .i64 x.round] : List Value)) (mid := [Sl.val x.saved]) (post := (GStats.enc x.stats : List Value)) (by simp [Engine.enc]) (by simp [length_arr, length_arrS, GProgram.length_enc, Answer.length_enc, Term.length_enc, Atom.length_enc, GRule.length_enc, GOp.length_enc, PredInfo.length_enc, GStats.length_enc, Literal.length_enc]) (by simp [length_arr, length_arrS, GProgram.length_enc, Answer.length_enc, Term.length_enc, Atom.length_enc, GRule.length_enc, GOp.length_enc, PredInfo.length_enc, GStats.length_enc, Literal.length_enc])]
  simp [Engine.enc]
theorem Engine.stats_get (x : Engine) : seg x.enc 9 4 = GStats.enc x.stats := part_of (pre := (GProgram.enc x.prog ++ [.pointer x.st] ++ [Sl.val x.levels] ++ [.bool x.running] ++ [.int .i64 x.stratum] ++ [.int .i64 x.round] ++ [Sl.val x.saved] : List Value)) (post := ([] : List Value)) (by simp [Engine.enc]) (by simp [length_arr, length_arrS, GProgram.length_enc, Answer.length_enc, Term.length_enc, Atom.length_enc, GRule.length_enc, GOp.length_enc, PredInfo.length_enc, GStats.length_enc, Literal.length_enc]) (by simp [length_arr, length_arrS, GProgram.length_enc, Answer.length_enc, Term.length_enc, Atom.length_enc, GRule.length_enc, GOp.length_enc, PredInfo.length_enc, GStats.length_enc, Literal.length_enc])
theorem Engine.stats_set (x : Engine) (y : GStats) : splice x.enc 9 (GStats.enc y) = ({ x with stats := y } : Engine).enc := by
  rw [splice_of (pre := (GProgram.enc x.prog ++ [.pointer x.st] ++ [Sl.val x.levels] ++ [.bool x.running] ++ [.int .i64 x.stratum] ++ [.int .i64 x.round] ++ [Sl.val x.saved] : List Value)) (mid := GStats.enc x.stats) (post := ([] : List Value)) (by simp [Engine.enc]) (by simp [length_arr, length_arrS, GProgram.length_enc, Answer.length_enc, Term.length_enc, Atom.length_enc, GRule.length_enc, GOp.length_enc, PredInfo.length_enc, GStats.length_enc, Literal.length_enc]) (by simp [length_arr, length_arrS, GProgram.length_enc, Answer.length_enc, Term.length_enc, Atom.length_enc, GRule.length_enc, GOp.length_enc, PredInfo.length_enc, GStats.length_enc, Literal.length_enc])]
  simp [Engine.enc]
theorem Engine.prog_preds_get (x : Engine) : nth x.enc 0 = some (Sl.val x.prog.preds) :=
  (get_sub (a := 0) (j := 0) (Engine.prog_get x) (by simp [GProgram.length_enc])).trans (GProgram.preds_get _)
theorem Engine.prog_preds_set (x : Engine) (y : Sl) : splice x.enc 0 ([Sl.val y]) = ({ x with prog := { x.prog with preds := y } } : Engine).enc := by
  rw [show 0 = 0 + 0 from rfl, splice_sub (Engine.prog_get x) (by simp [Engine.length_enc]) (by simp [length_arr, length_arrS, GProgram.length_enc, Answer.length_enc, Term.length_enc, Atom.length_enc, GRule.length_enc, GOp.length_enc, PredInfo.length_enc, GStats.length_enc, Literal.length_enc]), GProgram.preds_set, Engine.prog_set]
theorem Engine.prog_rules_get (x : Engine) : nth x.enc 1 = some (Sl.val x.prog.rules) :=
  (get_sub (a := 0) (j := 1) (Engine.prog_get x) (by simp [GProgram.length_enc])).trans (GProgram.rules_get _)
theorem Engine.prog_rules_set (x : Engine) (y : Sl) : splice x.enc 1 ([Sl.val y]) = ({ x with prog := { x.prog with rules := y } } : Engine).enc := by
  rw [show 1 = 0 + 1 from rfl, splice_sub (Engine.prog_get x) (by simp [Engine.length_enc]) (by simp [length_arr, length_arrS, GProgram.length_enc, Answer.length_enc, Term.length_enc, Atom.length_enc, GRule.length_enc, GOp.length_enc, PredInfo.length_enc, GStats.length_enc, Literal.length_enc]), GProgram.rules_set, Engine.prog_set]
theorem Engine.prog_strata_get (x : Engine) : nth x.enc 2 = some (.int .i64 x.prog.strata) :=
  (get_sub (a := 0) (j := 2) (Engine.prog_get x) (by simp [GProgram.length_enc])).trans (GProgram.strata_get _)
theorem Engine.prog_strata_set (x : Engine) (y : Int) : splice x.enc 2 ([.int .i64 y]) = ({ x with prog := { x.prog with strata := y } } : Engine).enc := by
  rw [show 2 = 0 + 2 from rfl, splice_sub (Engine.prog_get x) (by simp [Engine.length_enc]) (by simp [length_arr, length_arrS, GProgram.length_enc, Answer.length_enc, Term.length_enc, Atom.length_enc, GRule.length_enc, GOp.length_enc, PredInfo.length_enc, GStats.length_enc, Literal.length_enc]), GProgram.strata_set, Engine.prog_set]
theorem Engine.stats_rounds_get (x : Engine) : nth x.enc 9 = some (.int .i64 x.stats.rounds) :=
  (get_sub (a := 9) (j := 0) (Engine.stats_get x) (by simp [GStats.length_enc])).trans (GStats.rounds_get _)
theorem Engine.stats_rounds_set (x : Engine) (y : Int) : splice x.enc 9 ([.int .i64 y]) = ({ x with stats := { x.stats with rounds := y } } : Engine).enc := by
  rw [show 9 = 9 + 0 from rfl, splice_sub (Engine.stats_get x) (by simp [Engine.length_enc]) (by simp [length_arr, length_arrS, GProgram.length_enc, Answer.length_enc, Term.length_enc, Atom.length_enc, GRule.length_enc, GOp.length_enc, PredInfo.length_enc, GStats.length_enc, Literal.length_enc]), GStats.rounds_set, Engine.stats_set]
theorem Engine.stats_fired_get (x : Engine) : nth x.enc 10 = some (.int .i64 x.stats.fired) :=
  (get_sub (a := 9) (j := 1) (Engine.stats_get x) (by simp [GStats.length_enc])).trans (GStats.fired_get _)
theorem Engine.stats_fired_set (x : Engine) (y : Int) : splice x.enc 10 ([.int .i64 y]) = ({ x with stats := { x.stats with fired := y } } : Engine).enc := by
  rw [show 10 = 9 + 1 from rfl, splice_sub (Engine.stats_get x) (by simp [Engine.length_enc]) (by simp [length_arr, length_arrS, GProgram.length_enc, Answer.length_enc, Term.length_enc, Atom.length_enc, GRule.length_enc, GOp.length_enc, PredInfo.length_enc, GStats.length_enc, Literal.length_enc]), GStats.fired_set, Engine.stats_set]
theorem Engine.stats_emitted_get (x : Engine) : nth x.enc 11 = some (.int .i64 x.stats.emitted) :=
  (get_sub (a := 9) (j := 2) (Engine.stats_get x) (by simp [GStats.length_enc])).trans (GStats.emitted_get _)
theorem Engine.stats_emitted_set (x : Engine) (y : Int) : splice x.enc 11 ([.int .i64 y]) = ({ x with stats := { x.stats with emitted := y } } : Engine).enc := by
  rw [show 11 = 9 + 2 from rfl, splice_sub (Engine.stats_get x) (by simp [Engine.length_enc]) (by simp [length_arr, length_arrS, GProgram.length_enc, Answer.length_enc, Term.length_enc, Atom.length_enc, GRule.length_enc, GOp.length_enc, PredInfo.length_enc, GStats.length_enc, Literal.length_enc]), GStats.emitted_set, Engine.stats_set]
theorem Engine.stats_fresh_get (x : Engine) : nth x.enc 12 = some (.int .i64 x.stats.fresh) :=
  (get_sub (a := 9) (j := 3) (Engine.stats_get x) (by simp [GStats.length_enc])).trans (GStats.fresh_get _)
theorem Engine.stats_fresh_set (x : Engine) (y : Int) : splice x.enc 12 ([.int .i64 y]) = ({ x with stats := { x.stats with fresh := y } } : Engine).enc := by
  rw [show 12 = 9 + 3 from rfl, splice_sub (Engine.stats_get x) (by simp [Engine.length_enc]) (by simp [length_arr, length_arrS, GProgram.length_enc, Answer.length_enc, Term.length_enc, Atom.length_enc, GRule.length_enc, GOp.length_enc, PredInfo.length_enc, GStats.length_enc, Literal.length_enc]), GStats.fresh_set, Engine.stats_set]

structure Level where
  heads : Sl
  jobs : Sl
def Level.zero : Level := ⟨⟨none, 0, 0⟩, ⟨none, 0, 0⟩⟩
def Level.enc (x : Level) : List Value :=
  [Sl.val x.heads] ++ ([Sl.val x.jobs])
theorem Level.length_enc (x : Level) : x.enc.length = 2 := by simp [Level.enc, length_arr, length_arrS, GProgram.length_enc, Answer.length_enc, Term.length_enc, Atom.length_enc, GRule.length_enc, GOp.length_enc, PredInfo.length_enc, GStats.length_enc, Literal.length_enc, Engine.length_enc]
theorem Level.one_enc (x : Level) : x.enc.all (fun v => v.oneCell') = true := by simp only [Level.enc, List.all_append, List.all_cons, List.all_nil, oneC_int, oneC_bool, oneC_string, oneC_pointer, oneC_slice, Bool.and_true, Bool.true_and, implies_true, one_arr_u8, one_arr_u32, one_arr_u64, one_arr_i64, one_arr_bool, one_arr_str, one_arr_ptr, one_arr_sl, one_arrS, one_u8, one_u32, one_u64, one_i64, one_bool, one_str, one_sl, one_ptr, GProgram.one_enc, Answer.one_enc, Term.one_enc, Atom.one_enc, GRule.one_enc, GOp.one_enc, PredInfo.one_enc, GStats.one_enc, Literal.one_enc, Engine.one_enc]
theorem Level.ok_enc (x : Level) : okCells 2 x.enc = true := ok_mk x.length_enc x.one_enc
theorem Level.all_get (x : Level) : seg x.enc 0 2 = x.enc := seg_all _ _ x.length_enc
theorem Level.all_set (x y : Level) : splice x.enc 0 y.enc = y.enc := splice_all _ _ (by rw [x.length_enc, y.length_enc])
theorem Level.heads_get (x : Level) : nth x.enc 0 = some (Sl.val x.heads) := get_of (pre := ([] : List Value)) (post := ([Sl.val x.jobs] : List Value)) (by simp [Level.enc]) (by simp [length_arr, length_arrS, GProgram.length_enc, Answer.length_enc, Term.length_enc, Atom.length_enc, GRule.length_enc, GOp.length_enc, PredInfo.length_enc, GStats.length_enc, Literal.length_enc, Engine.length_enc])
theorem Level.heads_set (x : Level) (y : Sl) : splice x.enc 0 ([Sl.val y]) = ({ x with heads := y } : Level).enc := by
  rw [splice_of (pre := ([] : List Value)) (mid := [Sl.val x.heads]) (post := ([Sl.val x.jobs] : List Value)) (by simp [Level.enc]) (by simp [length_arr, length_arrS, GProgram.length_enc, Answer.length_enc, Term.length_enc, Atom.length_enc, GRule.length_enc, GOp.length_enc, PredInfo.length_enc, GStats.length_enc, Literal.length_enc, Engine.length_enc]) (by simp [length_arr, length_arrS, GProgram.length_enc, Answer.length_enc, Term.length_enc, Atom.length_enc, GRule.length_enc, GOp.length_enc, PredInfo.length_enc, GStats.length_enc, Literal.length_enc, Engine.length_enc])]
  simp [Level.enc]
theorem Level.jobs_get (x : Level) : nth x.enc 1 = some (Sl.val x.jobs) := get_of (pre := ([Sl.val x.heads] : List Value)) (post := ([] : List Value)) (by simp [Level.enc]) (by simp [length_arr, length_arrS, GProgram.length_enc, Answer.length_enc, Term.length_enc, Atom.length_enc, GRule.length_enc, GOp.length_enc, PredInfo.length_enc, GStats.length_enc, Literal.length_enc, Engine.length_enc])
theorem Level.jobs_set (x : Level) (y : Sl) : splice x.enc 1 ([Sl.val y]) = ({ x with jobs := y } : Level).enc := by
  rw [splice_of (pre := ([Sl.val x.heads] : List Value)) (mid := [Sl.val x.jobs]) (post := ([] : List Value)) (by simp [Level.enc]) (by simp [length_arr, length_arrS, GProgram.length_enc, Answer.length_enc, Term.length_enc, Atom.length_enc, GRule.length_enc, GOp.length_enc, PredInfo.length_enc, GStats.length_enc, Literal.length_enc, Engine.length_enc]) (by simp [length_arr, length_arrS, GProgram.length_enc, Answer.length_enc, Term.length_enc, Atom.length_enc, GRule.length_enc, GOp.length_enc, PredInfo.length_enc, GStats.length_enc, Literal.length_enc, Engine.length_enc])]
  simp [Level.enc]

structure Plan where
  rule : Int
  delta : Int
  src : Sl
def Plan.zero : Plan := ⟨0, 0, ⟨none, 0, 0⟩⟩
def Plan.enc (x : Plan) : List Value :=
  [.int .i64 x.rule] ++ ([.int .i64 x.delta] ++ ([Sl.val x.src]))
theorem Plan.length_enc (x : Plan) : x.enc.length = 3 := by simp [Plan.enc, length_arr, length_arrS, GProgram.length_enc, Answer.length_enc, Term.length_enc, Atom.length_enc, GRule.length_enc, GOp.length_enc, PredInfo.length_enc, GStats.length_enc, Literal.length_enc, Engine.length_enc, Level.length_enc]
theorem Plan.one_enc (x : Plan) : x.enc.all (fun v => v.oneCell') = true := by simp only [Plan.enc, List.all_append, List.all_cons, List.all_nil, oneC_int, oneC_bool, oneC_string, oneC_pointer, oneC_slice, Bool.and_true, Bool.true_and, implies_true, one_arr_u8, one_arr_u32, one_arr_u64, one_arr_i64, one_arr_bool, one_arr_str, one_arr_ptr, one_arr_sl, one_arrS, one_u8, one_u32, one_u64, one_i64, one_bool, one_str, one_sl, one_ptr, GProgram.one_enc, Answer.one_enc, Term.one_enc, Atom.one_enc, GRule.one_enc, GOp.one_enc, PredInfo.one_enc, GStats.one_enc, Literal.one_enc, Engine.one_enc, Level.one_enc]
theorem Plan.ok_enc (x : Plan) : okCells 3 x.enc = true := ok_mk x.length_enc x.one_enc
theorem Plan.all_get (x : Plan) : seg x.enc 0 3 = x.enc := seg_all _ _ x.length_enc
theorem Plan.all_set (x y : Plan) : splice x.enc 0 y.enc = y.enc := splice_all _ _ (by rw [x.length_enc, y.length_enc])
theorem Plan.rule_get (x : Plan) : nth x.enc 0 = some (.int .i64 x.rule) := get_of (pre := ([] : List Value)) (post := ([.int .i64 x.delta] ++ [Sl.val x.src] : List Value)) (by simp [Plan.enc]) (by simp [length_arr, length_arrS, GProgram.length_enc, Answer.length_enc, Term.length_enc, Atom.length_enc, GRule.length_enc, GOp.length_enc, PredInfo.length_enc, GStats.length_enc, Literal.length_enc, Engine.length_enc, Level.length_enc])
theorem Plan.rule_set (x : Plan) (y : Int) : splice x.enc 0 ([.int .i64 y]) = ({ x with rule := y } : Plan).enc := by
  rw [splice_of (pre := ([] : List Value)) (mid := [.int .i64 x.rule]) (post := ([.int .i64 x.delta] ++ [Sl.val x.src] : List Value)) (by simp [Plan.enc]) (by simp [length_arr, length_arrS, GProgram.length_enc, Answer.length_enc, Term.length_enc, Atom.length_enc, GRule.length_enc, GOp.length_enc, PredInfo.length_enc, GStats.length_enc, Literal.length_enc, Engine.length_enc, Level.length_enc]) (by simp [length_arr, length_arrS, GProgram.length_enc, Answer.length_enc, Term.length_enc, Atom.length_enc, GRule.length_enc, GOp.length_enc, PredInfo.length_enc, GStats.length_enc, Literal.length_enc, Engine.length_enc, Level.length_enc])]
  simp [Plan.enc]
theorem Plan.delta_get (x : Plan) : nth x.enc 1 = some (.int .i64 x.delta) := get_of (pre := ([.int .i64 x.rule] : List Value)) (post := ([Sl.val x.src] : List Value)) (by simp [Plan.enc]) (by simp [length_arr, length_arrS, GProgram.length_enc, Answer.length_enc, Term.length_enc, Atom.length_enc, GRule.length_enc, GOp.length_enc, PredInfo.length_enc, GStats.length_enc, Literal.length_enc, Engine.length_enc, Level.length_enc])
theorem Plan.delta_set (x : Plan) (y : Int) : splice x.enc 1 ([.int .i64 y]) = ({ x with delta := y } : Plan).enc := by
  rw [splice_of (pre := ([.int .i64 x.rule] : List Value)) (mid := [.int .i64 x.delta]) (post := ([Sl.val x.src] : List Value)) (by simp [Plan.enc]) (by simp [length_arr, length_arrS, GProgram.length_enc, Answer.length_enc, Term.length_enc, Atom.length_enc, GRule.length_enc, GOp.length_enc, PredInfo.length_enc, GStats.length_enc, Literal.length_enc, Engine.length_enc, Level.length_enc]) (by simp [length_arr, length_arrS, GProgram.length_enc, Answer.length_enc, Term.length_enc, Atom.length_enc, GRule.length_enc, GOp.length_enc, PredInfo.length_enc, GStats.length_enc, Literal.length_enc, Engine.length_enc, Level.length_enc])]
  simp [Plan.enc]
theorem Plan.src_get (x : Plan) : nth x.enc 2 = some (Sl.val x.src) := get_of (pre := ([.int .i64 x.rule] ++ [.int .i64 x.delta] : List Value)) (post := ([] : List Value)) (by simp [Plan.enc]) (by simp [length_arr, length_arrS, GProgram.length_enc, Answer.length_enc, Term.length_enc, Atom.length_enc, GRule.length_enc, GOp.length_enc, PredInfo.length_enc, GStats.length_enc, Literal.length_enc, Engine.length_enc, Level.length_enc])
theorem Plan.src_set (x : Plan) (y : Sl) : splice x.enc 2 ([Sl.val y]) = ({ x with src := y } : Plan).enc := by
  rw [splice_of (pre := ([.int .i64 x.rule] ++ [.int .i64 x.delta] : List Value)) (mid := [Sl.val x.src]) (post := ([] : List Value)) (by simp [Plan.enc]) (by simp [length_arr, length_arrS, GProgram.length_enc, Answer.length_enc, Term.length_enc, Atom.length_enc, GRule.length_enc, GOp.length_enc, PredInfo.length_enc, GStats.length_enc, Literal.length_enc, Engine.length_enc, Level.length_enc]) (by simp [length_arr, length_arrS, GProgram.length_enc, Answer.length_enc, Term.length_enc, Atom.length_enc, GRule.length_enc, GOp.length_enc, PredInfo.length_enc, GStats.length_enc, Literal.length_enc, Engine.length_enc, Level.length_enc])]
  simp [Plan.enc]

structure Job where
  full : Plan
  deltas : Sl
def Job.zero : Job := ⟨Plan.zero, ⟨none, 0, 0⟩⟩
def Job.enc (x : Job) : List Value :=
  Plan.enc x.full ++ ([Sl.val x.deltas])
theorem Job.length_enc (x : Job) : x.enc.length = 4 := by simp [Job.enc, length_arr, length_arrS, GProgram.length_enc, Answer.length_enc, Term.length_enc, Atom.length_enc, GRule.length_enc, GOp.length_enc, PredInfo.length_enc, GStats.length_enc, Literal.length_enc, Engine.length_enc, Level.length_enc, Plan.length_enc]
theorem Job.one_enc (x : Job) : x.enc.all (fun v => v.oneCell') = true := by simp only [Job.enc, List.all_append, List.all_cons, List.all_nil, oneC_int, oneC_bool, oneC_string, oneC_pointer, oneC_slice, Bool.and_true, Bool.true_and, implies_true, one_arr_u8, one_arr_u32, one_arr_u64, one_arr_i64, one_arr_bool, one_arr_str, one_arr_ptr, one_arr_sl, one_arrS, one_u8, one_u32, one_u64, one_i64, one_bool, one_str, one_sl, one_ptr, GProgram.one_enc, Answer.one_enc, Term.one_enc, Atom.one_enc, GRule.one_enc, GOp.one_enc, PredInfo.one_enc, GStats.one_enc, Literal.one_enc, Engine.one_enc, Level.one_enc, Plan.one_enc]
theorem Job.ok_enc (x : Job) : okCells 4 x.enc = true := ok_mk x.length_enc x.one_enc
theorem Job.all_get (x : Job) : seg x.enc 0 4 = x.enc := seg_all _ _ x.length_enc
theorem Job.all_set (x y : Job) : splice x.enc 0 y.enc = y.enc := splice_all _ _ (by rw [x.length_enc, y.length_enc])
theorem Job.full_get (x : Job) : seg x.enc 0 3 = Plan.enc x.full := part_of (pre := ([] : List Value)) (post := ([Sl.val x.deltas] : List Value)) (by simp [Job.enc]) (by simp [length_arr, length_arrS, GProgram.length_enc, Answer.length_enc, Term.length_enc, Atom.length_enc, GRule.length_enc, GOp.length_enc, PredInfo.length_enc, GStats.length_enc, Literal.length_enc, Engine.length_enc, Level.length_enc, Plan.length_enc]) (by simp [length_arr, length_arrS, GProgram.length_enc, Answer.length_enc, Term.length_enc, Atom.length_enc, GRule.length_enc, GOp.length_enc, PredInfo.length_enc, GStats.length_enc, Literal.length_enc, Engine.length_enc, Level.length_enc, Plan.length_enc])
theorem Job.full_set (x : Job) (y : Plan) : splice x.enc 0 (Plan.enc y) = ({ x with full := y } : Job).enc := by
  rw [splice_of (pre := ([] : List Value)) (mid := Plan.enc x.full) (post := ([Sl.val x.deltas] : List Value)) (by simp [Job.enc]) (by simp [length_arr, length_arrS, GProgram.length_enc, Answer.length_enc, Term.length_enc, Atom.length_enc, GRule.length_enc, GOp.length_enc, PredInfo.length_enc, GStats.length_enc, Literal.length_enc, Engine.length_enc, Level.length_enc, Plan.length_enc]) (by simp [length_arr, length_arrS, GProgram.length_enc, Answer.length_enc, Term.length_enc, Atom.length_enc, GRule.length_enc, GOp.length_enc, PredInfo.length_enc, GStats.length_enc, Literal.length_enc, Engine.length_enc, Level.length_enc, Plan.length_enc])]
  simp [Job.enc]
theorem Job.deltas_get (x : Job) : nth x.enc 3 = some (Sl.val x.deltas) := get_of (pre := (Plan.enc x.full : List Value)) (post := ([] : List Value)) (by simp [Job.enc]) (by simp [length_arr, length_arrS, GProgram.length_enc, Answer.length_enc, Term.length_enc, Atom.length_enc, GRule.length_enc, GOp.length_enc, PredInfo.length_enc, GStats.length_enc, Literal.length_enc, Engine.length_enc, Level.length_enc, Plan.length_enc])
theorem Job.deltas_set (x : Job) (y : Sl) : splice x.enc 3 ([Sl.val y]) = ({ x with deltas := y } : Job).enc := by
  rw [splice_of (pre := (Plan.enc x.full : List Value)) (mid := [Sl.val x.deltas]) (post := ([] : List Value)) (by simp [Job.enc]) (by simp [length_arr, length_arrS, GProgram.length_enc, Answer.length_enc, Term.length_enc, Atom.length_enc, GRule.length_enc, GOp.length_enc, PredInfo.length_enc, GStats.length_enc, Literal.length_enc, Engine.length_enc, Level.length_enc, Plan.length_enc]) (by simp [length_arr, length_arrS, GProgram.length_enc, Answer.length_enc, Term.length_enc, Atom.length_enc, GRule.length_enc, GOp.length_enc, PredInfo.length_enc, GStats.length_enc, Literal.length_enc, Engine.length_enc, Level.length_enc, Plan.length_enc])]
  simp [Job.enc]
theorem Job.full_rule_get (x : Job) : nth x.enc 0 = some (.int .i64 x.full.rule) :=
  (get_sub (a := 0) (j := 0) (Job.full_get x) (by simp [Plan.length_enc])).trans (Plan.rule_get _)
theorem Job.full_rule_set (x : Job) (y : Int) : splice x.enc 0 ([.int .i64 y]) = ({ x with full := { x.full with rule := y } } : Job).enc := by
  rw [show 0 = 0 + 0 from rfl, splice_sub (Job.full_get x) (by simp [Job.length_enc]) (by simp [length_arr, length_arrS, GProgram.length_enc, Answer.length_enc, Term.length_enc, Atom.length_enc, GRule.length_enc, GOp.length_enc, PredInfo.length_enc, GStats.length_enc, Literal.length_enc, Engine.length_enc, Level.length_enc, Plan.length_enc]), Plan.rule_set, Job.full_set]
theorem Job.full_delta_get (x : Job) : nth x.enc 1 = some (.int .i64 x.full.delta) :=
  (get_sub (a := 0) (j := 1) (Job.full_get x) (by simp [Plan.length_enc])).trans (Plan.delta_get _)
theorem Job.full_delta_set (x : Job) (y : Int) : splice x.enc 1 ([.int .i64 y]) = ({ x with full := { x.full with delta := y } } : Job).enc := by
  rw [show 1 = 0 + 1 from rfl, splice_sub (Job.full_get x) (by simp [Job.length_enc]) (by simp [length_arr, length_arrS, GProgram.length_enc, Answer.length_enc, Term.length_enc, Atom.length_enc, GRule.length_enc, GOp.length_enc, PredInfo.length_enc, GStats.length_enc, Literal.length_enc, Engine.length_enc, Level.length_enc, Plan.length_enc]), Plan.delta_set, Job.full_set]
theorem Job.full_src_get (x : Job) : nth x.enc 2 = some (Sl.val x.full.src) :=
  (get_sub (a := 0) (j := 2) (Job.full_get x) (by simp [Plan.length_enc])).trans (Plan.src_get _)
theorem Job.full_src_set (x : Job) (y : Sl) : splice x.enc 2 ([Sl.val y]) = ({ x with full := { x.full with src := y } } : Job).enc := by
  rw [show 2 = 0 + 2 from rfl, splice_sub (Job.full_get x) (by simp [Job.length_enc]) (by simp [length_arr, length_arrS, GProgram.length_enc, Answer.length_enc, Term.length_enc, Atom.length_enc, GRule.length_enc, GOp.length_enc, PredInfo.length_enc, GStats.length_enc, Literal.length_enc, Engine.length_enc, Level.length_enc, Plan.length_enc]), Plan.src_set, Job.full_set]

structure GState where
  prog : GProgram
  base : Sl
  shown : Sl
def GState.zero : GState := ⟨GProgram.zero, ⟨none, 0, 0⟩, ⟨none, 0, 0⟩⟩
def GState.enc (x : GState) : List Value :=
  GProgram.enc x.prog ++ ([Sl.val x.base] ++ ([Sl.val x.shown]))
theorem GState.length_enc (x : GState) : x.enc.length = 5 := by simp [GState.enc, length_arr, length_arrS, GProgram.length_enc, Answer.length_enc, Term.length_enc, Atom.length_enc, GRule.length_enc, GOp.length_enc, PredInfo.length_enc, GStats.length_enc, Literal.length_enc, Engine.length_enc, Level.length_enc, Plan.length_enc, Job.length_enc]
theorem GState.one_enc (x : GState) : x.enc.all (fun v => v.oneCell') = true := by simp only [GState.enc, List.all_append, List.all_cons, List.all_nil, oneC_int, oneC_bool, oneC_string, oneC_pointer, oneC_slice, Bool.and_true, Bool.true_and, implies_true, one_arr_u8, one_arr_u32, one_arr_u64, one_arr_i64, one_arr_bool, one_arr_str, one_arr_ptr, one_arr_sl, one_arrS, one_u8, one_u32, one_u64, one_i64, one_bool, one_str, one_sl, one_ptr, GProgram.one_enc, Answer.one_enc, Term.one_enc, Atom.one_enc, GRule.one_enc, GOp.one_enc, PredInfo.one_enc, GStats.one_enc, Literal.one_enc, Engine.one_enc, Level.one_enc, Plan.one_enc, Job.one_enc]
theorem GState.ok_enc (x : GState) : okCells 5 x.enc = true := ok_mk x.length_enc x.one_enc
theorem GState.all_get (x : GState) : seg x.enc 0 5 = x.enc := seg_all _ _ x.length_enc
theorem GState.all_set (x y : GState) : splice x.enc 0 y.enc = y.enc := splice_all _ _ (by rw [x.length_enc, y.length_enc])
theorem GState.prog_get (x : GState) : seg x.enc 0 3 = GProgram.enc x.prog := part_of (pre := ([] : List Value)) (post := ([Sl.val x.base] ++ [Sl.val x.shown] : List Value)) (by simp [GState.enc]) (by simp [length_arr, length_arrS, GProgram.length_enc, Answer.length_enc, Term.length_enc, Atom.length_enc, GRule.length_enc, GOp.length_enc, PredInfo.length_enc, GStats.length_enc, Literal.length_enc, Engine.length_enc, Level.length_enc, Plan.length_enc, Job.length_enc]) (by simp [length_arr, length_arrS, GProgram.length_enc, Answer.length_enc, Term.length_enc, Atom.length_enc, GRule.length_enc, GOp.length_enc, PredInfo.length_enc, GStats.length_enc, Literal.length_enc, Engine.length_enc, Level.length_enc, Plan.length_enc, Job.length_enc])
theorem GState.prog_set (x : GState) (y : GProgram) : splice x.enc 0 (GProgram.enc y) = ({ x with prog := y } : GState).enc := by
  rw [splice_of (pre := ([] : List Value)) (mid := GProgram.enc x.prog) (post := ([Sl.val x.base] ++ [Sl.val x.shown] : List Value)) (by simp [GState.enc]) (by simp [length_arr, length_arrS, GProgram.length_enc, Answer.length_enc, Term.length_enc, Atom.length_enc, GRule.length_enc, GOp.length_enc, PredInfo.length_enc, GStats.length_enc, Literal.length_enc, Engine.length_enc, Level.length_enc, Plan.length_enc, Job.length_enc]) (by simp [length_arr, length_arrS, GProgram.length_enc, Answer.length_enc, Term.length_enc, Atom.length_enc, GRule.length_enc, GOp.length_enc, PredInfo.length_enc, GStats.length_enc, Literal.length_enc, Engine.length_enc, Level.length_enc, Plan.length_enc, Job.length_enc])]
  simp [GState.enc]
theorem GState.base_get (x : GState) : nth x.enc 3 = some (Sl.val x.base) := get_of (pre := (GProgram.enc x.prog : List Value)) (post := ([Sl.val x.shown] : List Value)) (by simp [GState.enc]) (by simp [length_arr, length_arrS, GProgram.length_enc, Answer.length_enc, Term.length_enc, Atom.length_enc, GRule.length_enc, GOp.length_enc, PredInfo.length_enc, GStats.length_enc, Literal.length_enc, Engine.length_enc, Level.length_enc, Plan.length_enc, Job.length_enc])
theorem GState.base_set (x : GState) (y : Sl) : splice x.enc 3 ([Sl.val y]) = ({ x with base := y } : GState).enc := by
  rw [splice_of (pre := (GProgram.enc x.prog : List Value)) (mid := [Sl.val x.base]) (post := ([Sl.val x.shown] : List Value)) (by simp [GState.enc]) (by simp [length_arr, length_arrS, GProgram.length_enc, Answer.length_enc, Term.length_enc, Atom.length_enc, GRule.length_enc, GOp.length_enc, PredInfo.length_enc, GStats.length_enc, Literal.length_enc, Engine.length_enc, Level.length_enc, Plan.length_enc, Job.length_enc]) (by simp [length_arr, length_arrS, GProgram.length_enc, Answer.length_enc, Term.length_enc, Atom.length_enc, GRule.length_enc, GOp.length_enc, PredInfo.length_enc, GStats.length_enc, Literal.length_enc, Engine.length_enc, Level.length_enc, Plan.length_enc, Job.length_enc])]
  simp [GState.enc]
theorem GState.shown_get (x : GState) : nth x.enc 4 = some (Sl.val x.shown) := get_of (pre := (GProgram.enc x.prog ++ [Sl.val x.base] : List Value)) (post := ([] : List Value)) (by simp [GState.enc]) (by simp [length_arr, length_arrS, GProgram.length_enc, Answer.length_enc, Term.length_enc, Atom.length_enc, GRule.length_enc, GOp.length_enc, PredInfo.length_enc, GStats.length_enc, Literal.length_enc, Engine.length_enc, Level.length_enc, Plan.length_enc, Job.length_enc])
theorem GState.shown_set (x : GState) (y : Sl) : splice x.enc 4 ([Sl.val y]) = ({ x with shown := y } : GState).enc := by
  rw [splice_of (pre := (GProgram.enc x.prog ++ [Sl.val x.base] : List Value)) (mid := [Sl.val x.shown]) (post := ([] : List Value)) (by simp [GState.enc]) (by simp [length_arr, length_arrS, GProgram.length_enc, Answer.length_enc, Term.length_enc, Atom.length_enc, GRule.length_enc, GOp.length_enc, PredInfo.length_enc, GStats.length_enc, Literal.length_enc, Engine.length_enc, Level.length_enc, Plan.length_enc, Job.length_enc]) (by simp [length_arr, length_arrS, GProgram.length_enc, Answer.length_enc, Term.length_enc, Atom.length_enc, GRule.length_enc, GOp.length_enc, PredInfo.length_enc, GStats.length_enc, Literal.length_enc, Engine.length_enc, Level.length_enc, Plan.length_enc, Job.length_enc])]
  simp [GState.enc]
theorem GState.prog_preds_get (x : GState) : nth x.enc 0 = some (Sl.val x.prog.preds) :=
  (get_sub (a := 0) (j := 0) (GState.prog_get x) (by simp [GProgram.length_enc])).trans (GProgram.preds_get _)
theorem GState.prog_preds_set (x : GState) (y : Sl) : splice x.enc 0 ([Sl.val y]) = ({ x with prog := { x.prog with preds := y } } : GState).enc := by
  rw [show 0 = 0 + 0 from rfl, splice_sub (GState.prog_get x) (by simp [GState.length_enc]) (by simp [length_arr, length_arrS, GProgram.length_enc, Answer.length_enc, Term.length_enc, Atom.length_enc, GRule.length_enc, GOp.length_enc, PredInfo.length_enc, GStats.length_enc, Literal.length_enc, Engine.length_enc, Level.length_enc, Plan.length_enc, Job.length_enc]), GProgram.preds_set, GState.prog_set]
theorem GState.prog_rules_get (x : GState) : nth x.enc 1 = some (Sl.val x.prog.rules) :=
  (get_sub (a := 0) (j := 1) (GState.prog_get x) (by simp [GProgram.length_enc])).trans (GProgram.rules_get _)
theorem GState.prog_rules_set (x : GState) (y : Sl) : splice x.enc 1 ([Sl.val y]) = ({ x with prog := { x.prog with rules := y } } : GState).enc := by
  rw [show 1 = 0 + 1 from rfl, splice_sub (GState.prog_get x) (by simp [GState.length_enc]) (by simp [length_arr, length_arrS, GProgram.length_enc, Answer.length_enc, Term.length_enc, Atom.length_enc, GRule.length_enc, GOp.length_enc, PredInfo.length_enc, GStats.length_enc, Literal.length_enc, Engine.length_enc, Level.length_enc, Plan.length_enc, Job.length_enc]), GProgram.rules_set, GState.prog_set]
theorem GState.prog_strata_get (x : GState) : nth x.enc 2 = some (.int .i64 x.prog.strata) :=
  (get_sub (a := 0) (j := 2) (GState.prog_get x) (by simp [GProgram.length_enc])).trans (GProgram.strata_get _)
theorem GState.prog_strata_set (x : GState) (y : Int) : splice x.enc 2 ([.int .i64 y]) = ({ x with prog := { x.prog with strata := y } } : GState).enc := by
  rw [show 2 = 0 + 2 from rfl, splice_sub (GState.prog_get x) (by simp [GState.length_enc]) (by simp [length_arr, length_arrS, GProgram.length_enc, Answer.length_enc, Term.length_enc, Atom.length_enc, GRule.length_enc, GOp.length_enc, PredInfo.length_enc, GStats.length_enc, Literal.length_enc, Engine.length_enc, Level.length_enc, Plan.length_enc, Job.length_enc]), GProgram.strata_set, GState.prog_set]

structure Store where
  arity : Sl
  rows : Sl
def Store.zero : Store := ⟨⟨none, 0, 0⟩, ⟨none, 0, 0⟩⟩
def Store.enc (x : Store) : List Value :=
  [Sl.val x.arity] ++ ([Sl.val x.rows])
theorem Store.length_enc (x : Store) : x.enc.length = 2 := by simp [Store.enc, length_arr, length_arrS, GProgram.length_enc, Answer.length_enc, Term.length_enc, Atom.length_enc, GRule.length_enc, GOp.length_enc, PredInfo.length_enc, GStats.length_enc, Literal.length_enc, Engine.length_enc, Level.length_enc, Plan.length_enc, Job.length_enc, GState.length_enc]
theorem Store.one_enc (x : Store) : x.enc.all (fun v => v.oneCell') = true := by simp only [Store.enc, List.all_append, List.all_cons, List.all_nil, oneC_int, oneC_bool, oneC_string, oneC_pointer, oneC_slice, Bool.and_true, Bool.true_and, implies_true, one_arr_u8, one_arr_u32, one_arr_u64, one_arr_i64, one_arr_bool, one_arr_str, one_arr_ptr, one_arr_sl, one_arrS, one_u8, one_u32, one_u64, one_i64, one_bool, one_str, one_sl, one_ptr, GProgram.one_enc, Answer.one_enc, Term.one_enc, Atom.one_enc, GRule.one_enc, GOp.one_enc, PredInfo.one_enc, GStats.one_enc, Literal.one_enc, Engine.one_enc, Level.one_enc, Plan.one_enc, Job.one_enc, GState.one_enc]
theorem Store.ok_enc (x : Store) : okCells 2 x.enc = true := ok_mk x.length_enc x.one_enc
theorem Store.all_get (x : Store) : seg x.enc 0 2 = x.enc := seg_all _ _ x.length_enc
theorem Store.all_set (x y : Store) : splice x.enc 0 y.enc = y.enc := splice_all _ _ (by rw [x.length_enc, y.length_enc])
theorem Store.arity_get (x : Store) : nth x.enc 0 = some (Sl.val x.arity) := get_of (pre := ([] : List Value)) (post := ([Sl.val x.rows] : List Value)) (by simp [Store.enc]) (by simp [length_arr, length_arrS, GProgram.length_enc, Answer.length_enc, Term.length_enc, Atom.length_enc, GRule.length_enc, GOp.length_enc, PredInfo.length_enc, GStats.length_enc, Literal.length_enc, Engine.length_enc, Level.length_enc, Plan.length_enc, Job.length_enc, GState.length_enc])
theorem Store.arity_set (x : Store) (y : Sl) : splice x.enc 0 ([Sl.val y]) = ({ x with arity := y } : Store).enc := by
  rw [splice_of (pre := ([] : List Value)) (mid := [Sl.val x.arity]) (post := ([Sl.val x.rows] : List Value)) (by simp [Store.enc]) (by simp [length_arr, length_arrS, GProgram.length_enc, Answer.length_enc, Term.length_enc, Atom.length_enc, GRule.length_enc, GOp.length_enc, PredInfo.length_enc, GStats.length_enc, Literal.length_enc, Engine.length_enc, Level.length_enc, Plan.length_enc, Job.length_enc, GState.length_enc]) (by simp [length_arr, length_arrS, GProgram.length_enc, Answer.length_enc, Term.length_enc, Atom.length_enc, GRule.length_enc, GOp.length_enc, PredInfo.length_enc, GStats.length_enc, Literal.length_enc, Engine.length_enc, Level.length_enc, Plan.length_enc, Job.length_enc, GState.length_enc])]
  simp [Store.enc]
theorem Store.rows_get (x : Store) : nth x.enc 1 = some (Sl.val x.rows) := get_of (pre := ([Sl.val x.arity] : List Value)) (post := ([] : List Value)) (by simp [Store.enc]) (by simp [length_arr, length_arrS, GProgram.length_enc, Answer.length_enc, Term.length_enc, Atom.length_enc, GRule.length_enc, GOp.length_enc, PredInfo.length_enc, GStats.length_enc, Literal.length_enc, Engine.length_enc, Level.length_enc, Plan.length_enc, Job.length_enc, GState.length_enc])
theorem Store.rows_set (x : Store) (y : Sl) : splice x.enc 1 ([Sl.val y]) = ({ x with rows := y } : Store).enc := by
  rw [splice_of (pre := ([Sl.val x.arity] : List Value)) (mid := [Sl.val x.rows]) (post := ([] : List Value)) (by simp [Store.enc]) (by simp [length_arr, length_arrS, GProgram.length_enc, Answer.length_enc, Term.length_enc, Atom.length_enc, GRule.length_enc, GOp.length_enc, PredInfo.length_enc, GStats.length_enc, Literal.length_enc, Engine.length_enc, Level.length_enc, Plan.length_enc, Job.length_enc, GState.length_enc]) (by simp [length_arr, length_arrS, GProgram.length_enc, Answer.length_enc, Term.length_enc, Atom.length_enc, GRule.length_enc, GOp.length_enc, PredInfo.length_enc, GStats.length_enc, Literal.length_enc, Engine.length_enc, Level.length_enc, Plan.length_enc, Job.length_enc, GState.length_enc])]
  simp [Store.enc]

structure Env where
  val : (Vector Int 32)
  set : (Vector Bool 32)
def Env.zero : Env := ⟨(Vector.replicate 32 0), (Vector.replicate 32 false)⟩
def Env.enc (x : Env) : List Value :=
  arr i64v x.val ++ (arr boolv x.set)
theorem Env.length_enc (x : Env) : x.enc.length = 64 := by simp [Env.enc, length_arr, length_arrS, GProgram.length_enc, Answer.length_enc, Term.length_enc, Atom.length_enc, GRule.length_enc, GOp.length_enc, PredInfo.length_enc, GStats.length_enc, Literal.length_enc, Engine.length_enc, Level.length_enc, Plan.length_enc, Job.length_enc, GState.length_enc, Store.length_enc]
theorem Env.one_enc (x : Env) : x.enc.all (fun v => v.oneCell') = true := by simp only [Env.enc, List.all_append, List.all_cons, List.all_nil, oneC_int, oneC_bool, oneC_string, oneC_pointer, oneC_slice, Bool.and_true, Bool.true_and, implies_true, one_arr_u8, one_arr_u32, one_arr_u64, one_arr_i64, one_arr_bool, one_arr_str, one_arr_ptr, one_arr_sl, one_arrS, one_u8, one_u32, one_u64, one_i64, one_bool, one_str, one_sl, one_ptr, GProgram.one_enc, Answer.one_enc, Term.one_enc, Atom.one_enc, GRule.one_enc, GOp.one_enc, PredInfo.one_enc, GStats.one_enc, Literal.one_enc, Engine.one_enc, Level.one_enc, Plan.one_enc, Job.one_enc, GState.one_enc, Store.one_enc]
theorem Env.ok_enc (x : Env) : okCells 64 x.enc = true := ok_mk x.length_enc x.one_enc
theorem Env.all_get (x : Env) : seg x.enc 0 64 = x.enc := seg_all _ _ x.length_enc
theorem Env.all_set (x y : Env) : splice x.enc 0 y.enc = y.enc := splice_all _ _ (by rw [x.length_enc, y.length_enc])
theorem Env.val_get (x : Env) : seg x.enc 0 32 = arr i64v x.val := part_of (pre := ([] : List Value)) (post := (arr boolv x.set : List Value)) (by simp [Env.enc]) (by simp [length_arr, length_arrS, GProgram.length_enc, Answer.length_enc, Term.length_enc, Atom.length_enc, GRule.length_enc, GOp.length_enc, PredInfo.length_enc, GStats.length_enc, Literal.length_enc, Engine.length_enc, Level.length_enc, Plan.length_enc, Job.length_enc, GState.length_enc, Store.length_enc]) (by simp [length_arr, length_arrS, GProgram.length_enc, Answer.length_enc, Term.length_enc, Atom.length_enc, GRule.length_enc, GOp.length_enc, PredInfo.length_enc, GStats.length_enc, Literal.length_enc, Engine.length_enc, Level.length_enc, Plan.length_enc, Job.length_enc, GState.length_enc, Store.length_enc])
theorem Env.val_set (x : Env) (y : (Vector Int 32)) : splice x.enc 0 (arr i64v y) = ({ x with val := y } : Env).enc := by
  rw [splice_of (pre := ([] : List Value)) (mid := arr i64v x.val) (post := (arr boolv x.set : List Value)) (by simp [Env.enc]) (by simp [length_arr, length_arrS, GProgram.length_enc, Answer.length_enc, Term.length_enc, Atom.length_enc, GRule.length_enc, GOp.length_enc, PredInfo.length_enc, GStats.length_enc, Literal.length_enc, Engine.length_enc, Level.length_enc, Plan.length_enc, Job.length_enc, GState.length_enc, Store.length_enc]) (by simp [length_arr, length_arrS, GProgram.length_enc, Answer.length_enc, Term.length_enc, Atom.length_enc, GRule.length_enc, GOp.length_enc, PredInfo.length_enc, GStats.length_enc, Literal.length_enc, Engine.length_enc, Level.length_enc, Plan.length_enc, Job.length_enc, GState.length_enc, Store.length_enc])]
  simp [Env.enc]
theorem Env.val_at (x : Env) (i : Nat) (h : i < 32) : nth x.enc (0 + i) = some (.int .i64 x.val[i]) := by
  exact (get_sub (Env.val_get x) (by simp [length_arr, length_arrS, GProgram.length_enc, Answer.length_enc, Term.length_enc, Atom.length_enc, GRule.length_enc, GOp.length_enc, PredInfo.length_enc, GStats.length_enc, Literal.length_enc, Engine.length_enc, Level.length_enc, Plan.length_enc, Job.length_enc, GState.length_enc, Store.length_enc]; omega)).trans (arr_at _ _ h)
theorem Env.val_put (x : Env) (i : Nat) (y : Int) (h : i < 32) : splice x.enc (0 + i) [.int .i64 y] = ({ x with val := x.val.set i y h } : Env).enc := by
  rw [splice_sub (Env.val_get x) (by simp [Env.length_enc]) (by simp; omega)]
  rw [show ([.int .i64 y] : List Value) = [i64v y] from rfl, arr_put _ _ _ h, Env.val_set]
theorem Env.set_get (x : Env) : seg x.enc 32 32 = arr boolv x.set := part_of (pre := (arr i64v x.val : List Value)) (post := ([] : List Value)) (by simp [Env.enc]) (by simp [length_arr, length_arrS, GProgram.length_enc, Answer.length_enc, Term.length_enc, Atom.length_enc, GRule.length_enc, GOp.length_enc, PredInfo.length_enc, GStats.length_enc, Literal.length_enc, Engine.length_enc, Level.length_enc, Plan.length_enc, Job.length_enc, GState.length_enc, Store.length_enc]) (by simp [length_arr, length_arrS, GProgram.length_enc, Answer.length_enc, Term.length_enc, Atom.length_enc, GRule.length_enc, GOp.length_enc, PredInfo.length_enc, GStats.length_enc, Literal.length_enc, Engine.length_enc, Level.length_enc, Plan.length_enc, Job.length_enc, GState.length_enc, Store.length_enc])
theorem Env.set_set (x : Env) (y : (Vector Bool 32)) : splice x.enc 32 (arr boolv y) = ({ x with set := y } : Env).enc := by
  rw [splice_of (pre := (arr i64v x.val : List Value)) (mid := arr boolv x.set) (post := ([] : List Value)) (by simp [Env.enc]) (by simp [length_arr, length_arrS, GProgram.length_enc, Answer.length_enc, Term.length_enc, Atom.length_enc, GRule.length_enc, GOp.length_enc, PredInfo.length_enc, GStats.length_enc, Literal.length_enc, Engine.length_enc, Level.length_enc, Plan.length_enc, Job.length_enc, GState.length_enc, Store.length_enc]) (by simp [length_arr, length_arrS, GProgram.length_enc, Answer.length_enc, Term.length_enc, Atom.length_enc, GRule.length_enc, GOp.length_enc, PredInfo.length_enc, GStats.length_enc, Literal.length_enc, Engine.length_enc, Level.length_enc, Plan.length_enc, Job.length_enc, GState.length_enc, Store.length_enc])]
  simp [Env.enc]
theorem Env.set_at (x : Env) (i : Nat) (h : i < 32) : nth x.enc (32 + i) = some (.bool x.set[i]) := by
  exact (get_sub (Env.set_get x) (by simp [length_arr, length_arrS, GProgram.length_enc, Answer.length_enc, Term.length_enc, Atom.length_enc, GRule.length_enc, GOp.length_enc, PredInfo.length_enc, GStats.length_enc, Literal.length_enc, Engine.length_enc, Level.length_enc, Plan.length_enc, Job.length_enc, GState.length_enc, Store.length_enc]; omega)).trans (arr_at _ _ h)
theorem Env.set_put (x : Env) (i : Nat) (y : Bool) (h : i < 32) : splice x.enc (32 + i) [.bool y] = ({ x with set := x.set.set i y h } : Env).enc := by
  rw [splice_sub (Env.set_get x) (by simp [Env.length_enc]) (by simp; omega)]
  rw [show ([.bool y] : List Value) = [boolv y] from rfl, arr_put _ _ _ h, Env.set_set]

/-! ### the program's own loads, stores, new variables -/
theorem Try.ld24 (w : World) (b o : Nat) : (loadOp 24 (.pointer (some ⟨b, o, none⟩))).run Try.prog w = lookOr (cellAt (blk w b) o) w (rawLoad Try.prog 24 ⟨b, o, none⟩ w) := load_one Try.underlying24 rfl w b o
theorem Try.st24 (w : World) (b o : Nat) (v : Value) : (storeOp 24 (.pointer (some ⟨b, o, none⟩)) v).run Try.prog w = putOr (storeIn w (blk w b) b o 1 v) (rawStore Try.prog 24 ⟨b, o, none⟩ v w) := store_any (by kernel_rfl) w b o v
theorem Try.ld25 (w : World) (b o : Nat) : (loadOp 25 (.pointer (some ⟨b, o, none⟩))).run Try.prog w = lookOr (cellAt (blk w b) o) w (rawLoad Try.prog 25 ⟨b, o, none⟩ w) := load_one Try.underlying25 rfl w b o
theorem Try.st25 (w : World) (b o : Nat) (v : Value) : (storeOp 25 (.pointer (some ⟨b, o, none⟩)) v).run Try.prog w = putOr (storeIn w (blk w b) b o 1 v) (rawStore Try.prog 25 ⟨b, o, none⟩ v w) := store_any (by kernel_rfl) w b o v
theorem Try.ld3 (w : World) (b o : Nat) : (loadOp 3 (.pointer (some ⟨b, o, none⟩))).run Try.prog w = lookOr (cellAt (blk w b) o) w (rawLoad Try.prog 3 ⟨b, o, none⟩ w) := load_one Try.underlying3 rfl w b o
theorem Try.st3 (w : World) (b o : Nat) (v : Value) : (storeOp 3 (.pointer (some ⟨b, o, none⟩)) v).run Try.prog w = putOr (storeIn w (blk w b) b o 1 v) (rawStore Try.prog 3 ⟨b, o, none⟩ v w) := store_any (by kernel_rfl) w b o v
theorem Try.ld30 (w : World) (b o : Nat) : (loadOp 30 (.pointer (some ⟨b, o, none⟩))).run Try.prog w = lookOr (cellAt (blk w b) o) w (rawLoad Try.prog 30 ⟨b, o, none⟩ w) := load_one Try.underlying30 rfl w b o
theorem Try.st30 (w : World) (b o : Nat) (v : Value) : (storeOp 30 (.pointer (some ⟨b, o, none⟩)) v).run Try.prog w = putOr (storeIn w (blk w b) b o 1 v) (rawStore Try.prog 30 ⟨b, o, none⟩ v w) := store_any (by kernel_rfl) w b o v
theorem Try.ld36 (w : World) (b o : Nat) : (loadOp 36 (.pointer (some ⟨b, o, none⟩))).run Try.prog w = lookOr (cellAt (blk w b) o) w (rawLoad Try.prog 36 ⟨b, o, none⟩ w) := load_one Try.underlying36 rfl w b o
theorem Try.st36 (w : World) (b o : Nat) (v : Value) : (storeOp 36 (.pointer (some ⟨b, o, none⟩)) v).run Try.prog w = putOr (storeIn w (blk w b) b o 1 v) (rawStore Try.prog 36 ⟨b, o, none⟩ v w) := store_any (by kernel_rfl) w b o v
theorem Try.ld4 (w : World) (b o : Nat) : (loadOp 4 (.pointer (some ⟨b, o, none⟩))).run Try.prog w = lookOr (cellAt (blk w b) o) w (rawLoad Try.prog 4 ⟨b, o, none⟩ w) := load_one Try.underlying4 rfl w b o
theorem Try.st4 (w : World) (b o : Nat) (v : Value) : (storeOp 4 (.pointer (some ⟨b, o, none⟩)) v).run Try.prog w = putOr (storeIn w (blk w b) b o 1 v) (rawStore Try.prog 4 ⟨b, o, none⟩ v w) := store_any (by kernel_rfl) w b o v
theorem Try.ld41 (w : World) (b o : Nat) : (loadOp 41 (.pointer (some ⟨b, o, none⟩))).run Try.prog w = lookOr (cellAt (blk w b) o) w (rawLoad Try.prog 41 ⟨b, o, none⟩ w) := load_one Try.underlying41 rfl w b o
theorem Try.st41 (w : World) (b o : Nat) (v : Value) : (storeOp 41 (.pointer (some ⟨b, o, none⟩)) v).run Try.prog w = putOr (storeIn w (blk w b) b o 1 v) (rawStore Try.prog 41 ⟨b, o, none⟩ v w) := store_any (by kernel_rfl) w b o v
theorem Try.ld50 (w : World) (b o : Nat) : (loadOp 50 (.pointer (some ⟨b, o, none⟩))).run Try.prog w = lookOr (cellAt (blk w b) o) w (rawLoad Try.prog 50 ⟨b, o, none⟩ w) := load_one Try.underlying50 rfl w b o
theorem Try.st50 (w : World) (b o : Nat) (v : Value) : (storeOp 50 (.pointer (some ⟨b, o, none⟩)) v).run Try.prog w = putOr (storeIn w (blk w b) b o 1 v) (rawStore Try.prog 50 ⟨b, o, none⟩ v w) := store_any (by kernel_rfl) w b o v
theorem Try.ld40 (w : World) (b o : Nat) : (loadOp 40 (.pointer (some ⟨b, o, none⟩))).run Try.prog w = lookOr (cellAt (blk w b) o) w (rawLoad Try.prog 40 ⟨b, o, none⟩ w) := load_one Try.underlying40 rfl w b o
theorem Try.st40 (w : World) (b o : Nat) (v : Value) : (storeOp 40 (.pointer (some ⟨b, o, none⟩)) v).run Try.prog w = putOr (storeIn w (blk w b) b o 1 v) (rawStore Try.prog 40 ⟨b, o, none⟩ v w) := store_any (by kernel_rfl) w b o v
theorem Try.ld42 (w : World) (b o : Nat) : (loadOp 42 (.pointer (some ⟨b, o, none⟩))).run Try.prog w = lookOr (cellAt (blk w b) o) w (rawLoad Try.prog 42 ⟨b, o, none⟩ w) := load_one Try.underlying42 rfl w b o
theorem Try.st42 (w : World) (b o : Nat) (v : Value) : (storeOp 42 (.pointer (some ⟨b, o, none⟩)) v).run Try.prog w = putOr (storeIn w (blk w b) b o 1 v) (rawStore Try.prog 42 ⟨b, o, none⟩ v w) := store_any (by kernel_rfl) w b o v
theorem Try.ld89 (w : World) (b o : Nat) : (loadOp 89 (.pointer (some ⟨b, o, none⟩))).run Try.prog w = lookOr (cellAt (blk w b) o) w (rawLoad Try.prog 89 ⟨b, o, none⟩ w) := load_one Try.underlying89 rfl w b o
theorem Try.st89 (w : World) (b o : Nat) (v : Value) : (storeOp 89 (.pointer (some ⟨b, o, none⟩)) v).run Try.prog w = putOr (storeIn w (blk w b) b o 1 v) (rawStore Try.prog 89 ⟨b, o, none⟩ v w) := store_any (by kernel_rfl) w b o v
theorem Try.ld91 (w : World) (b o : Nat) : (loadOp 91 (.pointer (some ⟨b, o, none⟩))).run Try.prog w = lookOr (cellAt (blk w b) o) w (rawLoad Try.prog 91 ⟨b, o, none⟩ w) := load_one Try.underlying91 rfl w b o
theorem Try.st91 (w : World) (b o : Nat) (v : Value) : (storeOp 91 (.pointer (some ⟨b, o, none⟩)) v).run Try.prog w = putOr (storeIn w (blk w b) b o 1 v) (rawStore Try.prog 91 ⟨b, o, none⟩ v w) := store_any (by kernel_rfl) w b o v
theorem Try.ld56 (w : World) (b o : Nat) : (loadOp 56 (.pointer (some ⟨b, o, none⟩))).run Try.prog w = lookOr (cellAt (blk w b) o) w (rawLoad Try.prog 56 ⟨b, o, none⟩ w) := load_one Try.underlying56 rfl w b o
theorem Try.st56 (w : World) (b o : Nat) (v : Value) : (storeOp 56 (.pointer (some ⟨b, o, none⟩)) v).run Try.prog w = putOr (storeIn w (blk w b) b o 1 v) (rawStore Try.prog 56 ⟨b, o, none⟩ v w) := store_any (by kernel_rfl) w b o v
theorem Try.ld97 (w : World) (b o : Nat) : (loadOp 97 (.pointer (some ⟨b, o, none⟩))).run Try.prog w = lookOr (cellAt (blk w b) o) w (rawLoad Try.prog 97 ⟨b, o, none⟩ w) := load_one Try.underlying97 rfl w b o
theorem Try.st97 (w : World) (b o : Nat) (v : Value) : (storeOp 97 (.pointer (some ⟨b, o, none⟩)) v).run Try.prog w = putOr (storeIn w (blk w b) b o 1 v) (rawStore Try.prog 97 ⟨b, o, none⟩ v w) := store_any (by kernel_rfl) w b o v
theorem Try.ld98 (w : World) (b o : Nat) : (loadOp 98 (.pointer (some ⟨b, o, none⟩))).run Try.prog w = lookOr (cellAt (blk w b) o) w (rawLoad Try.prog 98 ⟨b, o, none⟩ w) := load_one Try.underlying98 rfl w b o
theorem Try.st98 (w : World) (b o : Nat) (v : Value) : (storeOp 98 (.pointer (some ⟨b, o, none⟩)) v).run Try.prog w = putOr (storeIn w (blk w b) b o 1 v) (rawStore Try.prog 98 ⟨b, o, none⟩ v w) := store_any (by kernel_rfl) w b o v
theorem Try.ld101 (w : World) (b o : Nat) : (loadOp 101 (.pointer (some ⟨b, o, none⟩))).run Try.prog w = lookOr (cellAt (blk w b) o) w (rawLoad Try.prog 101 ⟨b, o, none⟩ w) := load_one Try.underlying101 rfl w b o
theorem Try.st101 (w : World) (b o : Nat) (v : Value) : (storeOp 101 (.pointer (some ⟨b, o, none⟩)) v).run Try.prog w = putOr (storeIn w (blk w b) b o 1 v) (rawStore Try.prog 101 ⟨b, o, none⟩ v w) := store_any (by kernel_rfl) w b o v
theorem Try.ld104 (w : World) (b o : Nat) : (loadOp 104 (.pointer (some ⟨b, o, none⟩))).run Try.prog w = lookOr (cellAt (blk w b) o) w (rawLoad Try.prog 104 ⟨b, o, none⟩ w) := load_one Try.underlying104 rfl w b o
theorem Try.st104 (w : World) (b o : Nat) (v : Value) : (storeOp 104 (.pointer (some ⟨b, o, none⟩)) v).run Try.prog w = putOr (storeIn w (blk w b) b o 1 v) (rawStore Try.prog 104 ⟨b, o, none⟩ v w) := store_any (by kernel_rfl) w b o v
theorem Try.ld57 (w : World) (b o : Nat) : (loadOp 57 (.pointer (some ⟨b, o, none⟩))).run Try.prog w = lookOr (cellAt (blk w b) o) w (rawLoad Try.prog 57 ⟨b, o, none⟩ w) := load_one Try.underlying57 rfl w b o
theorem Try.st57 (w : World) (b o : Nat) (v : Value) : (storeOp 57 (.pointer (some ⟨b, o, none⟩)) v).run Try.prog w = putOr (storeIn w (blk w b) b o 1 v) (rawStore Try.prog 57 ⟨b, o, none⟩ v w) := store_any (by kernel_rfl) w b o v
theorem Try.ld130 (w : World) (b o : Nat) : (loadOp 130 (.pointer (some ⟨b, o, none⟩))).run Try.prog w = lookOr (cellAt (blk w b) o) w (rawLoad Try.prog 130 ⟨b, o, none⟩ w) := load_one Try.underlying130 rfl w b o
theorem Try.st130 (w : World) (b o : Nat) (v : Value) : (storeOp 130 (.pointer (some ⟨b, o, none⟩)) v).run Try.prog w = putOr (storeIn w (blk w b) b o 1 v) (rawStore Try.prog 130 ⟨b, o, none⟩ v w) := store_any (by kernel_rfl) w b o v
theorem Try.ld2 (w : World) (b o : Nat) : (loadOp 2 (.pointer (some ⟨b, o, none⟩))).run Try.prog w = lookOr (cellAt (blk w b) o) w (rawLoad Try.prog 2 ⟨b, o, none⟩ w) := load_one Try.underlying2 rfl w b o
theorem Try.st2 (w : World) (b o : Nat) (v : Value) : (storeOp 2 (.pointer (some ⟨b, o, none⟩)) v).run Try.prog w = putOr (storeIn w (blk w b) b o 1 v) (rawStore Try.prog 2 ⟨b, o, none⟩ v w) := store_any (by kernel_rfl) w b o v
theorem Try.ld5 (w : World) (b o : Nat) : (loadOp 5 (.pointer (some ⟨b, o, none⟩))).run Try.prog w = lookOr (cellAt (blk w b) o) w (rawLoad Try.prog 5 ⟨b, o, none⟩ w) := load_one Try.underlying5 rfl w b o
theorem Try.st5 (w : World) (b o : Nat) (v : Value) : (storeOp 5 (.pointer (some ⟨b, o, none⟩)) v).run Try.prog w = putOr (storeIn w (blk w b) b o 1 v) (rawStore Try.prog 5 ⟨b, o, none⟩ v w) := store_any (by kernel_rfl) w b o v
theorem Try.ld9 (w : World) (b o : Nat) : (loadOp 9 (.pointer (some ⟨b, o, none⟩))).run Try.prog w = lookOr (cellAt (blk w b) o) w (rawLoad Try.prog 9 ⟨b, o, none⟩ w) := load_one Try.underlying9 rfl w b o
theorem Try.st9 (w : World) (b o : Nat) (v : Value) : (storeOp 9 (.pointer (some ⟨b, o, none⟩)) v).run Try.prog w = putOr (storeIn w (blk w b) b o 1 v) (rawStore Try.prog 9 ⟨b, o, none⟩ v w) := store_any (by kernel_rfl) w b o v
theorem Try.ld12 (w : World) (b o : Nat) : (loadOp 12 (.pointer (some ⟨b, o, none⟩))).run Try.prog w = lookOr (cellAt (blk w b) o) w (rawLoad Try.prog 12 ⟨b, o, none⟩ w) := load_one Try.underlying12 rfl w b o
theorem Try.st12 (w : World) (b o : Nat) (v : Value) : (storeOp 12 (.pointer (some ⟨b, o, none⟩)) v).run Try.prog w = putOr (storeIn w (blk w b) b o 1 v) (rawStore Try.prog 12 ⟨b, o, none⟩ v w) := store_any (by kernel_rfl) w b o v
theorem Try.ld21 (w : World) (b o : Nat) : (loadOp 21 (.pointer (some ⟨b, o, none⟩))).run Try.prog w = lookOr (cellAt (blk w b) o) w (rawLoad Try.prog 21 ⟨b, o, none⟩ w) := load_one Try.underlying21 rfl w b o
theorem Try.st21 (w : World) (b o : Nat) (v : Value) : (storeOp 21 (.pointer (some ⟨b, o, none⟩)) v).run Try.prog w = putOr (storeIn w (blk w b) b o 1 v) (rawStore Try.prog 21 ⟨b, o, none⟩ v w) := store_any (by kernel_rfl) w b o v
theorem Try.ld22 (w : World) (b o : Nat) : (loadOp 22 (.pointer (some ⟨b, o, none⟩))).run Try.prog w = lookOr (cellAt (blk w b) o) w (rawLoad Try.prog 22 ⟨b, o, none⟩ w) := load_one Try.underlying22 rfl w b o
theorem Try.st22 (w : World) (b o : Nat) (v : Value) : (storeOp 22 (.pointer (some ⟨b, o, none⟩)) v).run Try.prog w = putOr (storeIn w (blk w b) b o 1 v) (rawStore Try.prog 22 ⟨b, o, none⟩ v w) := store_any (by kernel_rfl) w b o v
theorem Try.ld29 (w : World) (b o : Nat) : (loadOp 29 (.pointer (some ⟨b, o, none⟩))).run Try.prog w = lookOr (cellAt (blk w b) o) w (rawLoad Try.prog 29 ⟨b, o, none⟩ w) := load_one Try.underlying29 rfl w b o
theorem Try.st29 (w : World) (b o : Nat) (v : Value) : (storeOp 29 (.pointer (some ⟨b, o, none⟩)) v).run Try.prog w = putOr (storeIn w (blk w b) b o 1 v) (rawStore Try.prog 29 ⟨b, o, none⟩ v w) := store_any (by kernel_rfl) w b o v
theorem Try.ld33 (w : World) (b o : Nat) : (loadOp 33 (.pointer (some ⟨b, o, none⟩))).run Try.prog w = lookOr (cellAt (blk w b) o) w (rawLoad Try.prog 33 ⟨b, o, none⟩ w) := load_one Try.underlying33 rfl w b o
theorem Try.st33 (w : World) (b o : Nat) (v : Value) : (storeOp 33 (.pointer (some ⟨b, o, none⟩)) v).run Try.prog w = putOr (storeIn w (blk w b) b o 1 v) (rawStore Try.prog 33 ⟨b, o, none⟩ v w) := store_any (by kernel_rfl) w b o v
theorem Try.ld59 (w : World) (b o : Nat) : (loadOp 59 (.pointer (some ⟨b, o, none⟩))).run Try.prog w = lookOr (cellAt (blk w b) o) w (rawLoad Try.prog 59 ⟨b, o, none⟩ w) := load_one Try.underlying59 rfl w b o
theorem Try.st59 (w : World) (b o : Nat) (v : Value) : (storeOp 59 (.pointer (some ⟨b, o, none⟩)) v).run Try.prog w = putOr (storeIn w (blk w b) b o 1 v) (rawStore Try.prog 59 ⟨b, o, none⟩ v w) := store_any (by kernel_rfl) w b o v
theorem Try.ld62 (w : World) (b o : Nat) : (loadOp 62 (.pointer (some ⟨b, o, none⟩))).run Try.prog w = lookOr (cellAt (blk w b) o) w (rawLoad Try.prog 62 ⟨b, o, none⟩ w) := load_one Try.underlying62 rfl w b o
theorem Try.st62 (w : World) (b o : Nat) (v : Value) : (storeOp 62 (.pointer (some ⟨b, o, none⟩)) v).run Try.prog w = putOr (storeIn w (blk w b) b o 1 v) (rawStore Try.prog 62 ⟨b, o, none⟩ v w) := store_any (by kernel_rfl) w b o v
theorem Try.ld69 (w : World) (b o : Nat) : (loadOp 69 (.pointer (some ⟨b, o, none⟩))).run Try.prog w = lookOr (cellAt (blk w b) o) w (rawLoad Try.prog 69 ⟨b, o, none⟩ w) := load_one Try.underlying69 rfl w b o
theorem Try.st69 (w : World) (b o : Nat) (v : Value) : (storeOp 69 (.pointer (some ⟨b, o, none⟩)) v).run Try.prog w = putOr (storeIn w (blk w b) b o 1 v) (rawStore Try.prog 69 ⟨b, o, none⟩ v w) := store_any (by kernel_rfl) w b o v
theorem Try.ld94 (w : World) (b o : Nat) : (loadOp 94 (.pointer (some ⟨b, o, none⟩))).run Try.prog w = lookOr (cellAt (blk w b) o) w (rawLoad Try.prog 94 ⟨b, o, none⟩ w) := load_one Try.underlying94 rfl w b o
theorem Try.st94 (w : World) (b o : Nat) (v : Value) : (storeOp 94 (.pointer (some ⟨b, o, none⟩)) v).run Try.prog w = putOr (storeIn w (blk w b) b o 1 v) (rawStore Try.prog 94 ⟨b, o, none⟩ v w) := store_any (by kernel_rfl) w b o v
theorem Try.ld96 (w : World) (b o : Nat) : (loadOp 96 (.pointer (some ⟨b, o, none⟩))).run Try.prog w = lookOr (cellAt (blk w b) o) w (rawLoad Try.prog 96 ⟨b, o, none⟩ w) := load_one Try.underlying96 rfl w b o
theorem Try.st96 (w : World) (b o : Nat) (v : Value) : (storeOp 96 (.pointer (some ⟨b, o, none⟩)) v).run Try.prog w = putOr (storeIn w (blk w b) b o 1 v) (rawStore Try.prog 96 ⟨b, o, none⟩ v w) := store_any (by kernel_rfl) w b o v
theorem Try.ld129 (w : World) (b o : Nat) : (loadOp 129 (.pointer (some ⟨b, o, none⟩))).run Try.prog w = lookOr (cellAt (blk w b) o) w (rawLoad Try.prog 129 ⟨b, o, none⟩ w) := load_one Try.underlying129 rfl w b o
theorem Try.st129 (w : World) (b o : Nat) (v : Value) : (storeOp 129 (.pointer (some ⟨b, o, none⟩)) v).run Try.prog w = putOr (storeIn w (blk w b) b o 1 v) (rawStore Try.prog 129 ⟨b, o, none⟩ v w) := store_any (by kernel_rfl) w b o v
theorem Try.ld158 (w : World) (b o : Nat) : (loadOp 158 (.pointer (some ⟨b, o, none⟩))).run Try.prog w = lookOr (cellAt (blk w b) o) w (rawLoad Try.prog 158 ⟨b, o, none⟩ w) := load_one Try.underlying158 rfl w b o
theorem Try.st158 (w : World) (b o : Nat) (v : Value) : (storeOp 158 (.pointer (some ⟨b, o, none⟩)) v).run Try.prog w = putOr (storeIn w (blk w b) b o 1 v) (rawStore Try.prog 158 ⟨b, o, none⟩ v w) := store_any (by kernel_rfl) w b o v
theorem Try.ld162 (w : World) (b o : Nat) : (loadOp 162 (.pointer (some ⟨b, o, none⟩))).run Try.prog w = lookOr (cellAt (blk w b) o) w (rawLoad Try.prog 162 ⟨b, o, none⟩ w) := load_one Try.underlying162 rfl w b o
theorem Try.st162 (w : World) (b o : Nat) (v : Value) : (storeOp 162 (.pointer (some ⟨b, o, none⟩)) v).run Try.prog w = putOr (storeIn w (blk w b) b o 1 v) (rawStore Try.prog 162 ⟨b, o, none⟩ v w) := store_any (by kernel_rfl) w b o v
theorem Try.ld47 (w : World) (b o : Nat) : (loadOp 47 (.pointer (some ⟨b, o, none⟩))).run Try.prog w = lookOr (segAt (blk w b) o 8) w (rawLoad Try.prog 47 ⟨b, o, none⟩ w) := load_agg Try.underlying47 rfl (by kernel_rfl) w b o
theorem Try.st47 (w : World) (b o : Nat) (v : Value) : (storeOp 47 (.pointer (some ⟨b, o, none⟩)) v).run Try.prog w = putOr (storeIn w (blk w b) b o 8 v) (rawStore Try.prog 47 ⟨b, o, none⟩ v w) := store_any (by kernel_rfl) w b o v
theorem Try.al47 (w : World) : (allocOp 47).run Try.prog w = .ok (.value (.pointer (some ⟨w.heap.size, 0, none⟩))) (w.alloc (.cells (arrS Term.enc ((Vector.replicate 4 Term.zero) : (Vector Term 4))).toArray 47)) := alloc_any (v := .agg (arrS Term.enc ((Vector.replicate 4 Term.zero) : (Vector Term 4))).toArray) (by kernel_rfl) w
theorem Try.ld44 (w : World) (b o : Nat) : (loadOp 44 (.pointer (some ⟨b, o, none⟩))).run Try.prog w = lookOr (segAt (blk w b) o 4) w (rawLoad Try.prog 44 ⟨b, o, none⟩ w) := load_agg Try.underlying44 rfl (by kernel_rfl) w b o
theorem Try.st44 (w : World) (b o : Nat) (v : Value) : (storeOp 44 (.pointer (some ⟨b, o, none⟩)) v).run Try.prog w = putOr (storeIn w (blk w b) b o 4 v) (rawStore Try.prog 44 ⟨b, o, none⟩ v w) := store_any (by kernel_rfl) w b o v
theorem Try.al44 (w : World) : (allocOp 44).run Try.prog w = .ok (.value (.pointer (some ⟨w.heap.size, 0, none⟩))) (w.alloc (.cells (arr i64v ((Vector.replicate 4 0) : (Vector Int 4))).toArray 44)) := alloc_any (v := .agg (arr i64v ((Vector.replicate 4 0) : (Vector Int 4))).toArray) (by kernel_rfl) w
theorem Try.ld137 (w : World) (b o : Nat) : (loadOp 137 (.pointer (some ⟨b, o, none⟩))).run Try.prog w = lookOr (segAt (blk w b) o 32) w (rawLoad Try.prog 137 ⟨b, o, none⟩ w) := load_agg Try.underlying137 rfl (by kernel_rfl) w b o
theorem Try.st137 (w : World) (b o : Nat) (v : Value) : (storeOp 137 (.pointer (some ⟨b, o, none⟩)) v).run Try.prog w = putOr (storeIn w (blk w b) b o 32 v) (rawStore Try.prog 137 ⟨b, o, none⟩ v w) := store_any (by kernel_rfl) w b o v
theorem Try.al137 (w : World) : (allocOp 137).run Try.prog w = .ok (.value (.pointer (some ⟨w.heap.size, 0, none⟩))) (w.alloc (.cells (arr i64v ((Vector.replicate 32 0) : (Vector Int 32))).toArray 137)) := alloc_any (v := .agg (arr i64v ((Vector.replicate 32 0) : (Vector Int 32))).toArray) (by kernel_rfl) w
theorem Try.ld145 (w : World) (b o : Nat) : (loadOp 145 (.pointer (some ⟨b, o, none⟩))).run Try.prog w = lookOr (segAt (blk w b) o 32) w (rawLoad Try.prog 145 ⟨b, o, none⟩ w) := load_agg Try.underlying145 rfl (by kernel_rfl) w b o
theorem Try.st145 (w : World) (b o : Nat) (v : Value) : (storeOp 145 (.pointer (some ⟨b, o, none⟩)) v).run Try.prog w = putOr (storeIn w (blk w b) b o 32 v) (rawStore Try.prog 145 ⟨b, o, none⟩ v w) := store_any (by kernel_rfl) w b o v
theorem Try.al145 (w : World) : (allocOp 145).run Try.prog w = .ok (.value (.pointer (some ⟨w.heap.size, 0, none⟩))) (w.alloc (.cells (arr boolv ((Vector.replicate 32 false) : (Vector Bool 32))).toArray 145)) := alloc_any (v := .agg (arr boolv ((Vector.replicate 32 false) : (Vector Bool 32))).toArray) (by kernel_rfl) w
theorem Try.ld43 (w : World) (b o : Nat) : (loadOp 43 (.pointer (some ⟨b, o, none⟩))).run Try.prog w = lookOr (segAt (blk w b) o 4) w (rawLoad Try.prog 43 ⟨b, o, none⟩ w) := load_agg Try.underlying43 rfl (by kernel_rfl) w b o
theorem Try.st43 (w : World) (b o : Nat) (v : Value) : (storeOp 43 (.pointer (some ⟨b, o, none⟩)) v).run Try.prog w = putOr (storeIn w (blk w b) b o 4 v) (rawStore Try.prog 43 ⟨b, o, none⟩ v w) := store_any (by kernel_rfl) w b o v
theorem Try.al43 (w : World) : (allocOp 43).run Try.prog w = .ok (.value (.pointer (some ⟨w.heap.size, 0, none⟩))) (w.alloc (.cells (arr i64v ((Vector.replicate 4 0) : (Vector Int 4))).toArray 43)) := alloc_any (v := .agg (arr i64v ((Vector.replicate 4 0) : (Vector Int 4))).toArray) (by kernel_rfl) w
theorem Try.ld27 (w : World) (b o : Nat) : (loadOp 27 (.pointer (some ⟨b, o, none⟩))).run Try.prog w = lookOr (segAt (blk w b) o 3) w (rawLoad Try.prog 27 ⟨b, o, none⟩ w) := load_agg Try.underlying27 rfl (by kernel_rfl) w b o
theorem Try.st27 (w : World) (b o : Nat) (v : Value) : (storeOp 27 (.pointer (some ⟨b, o, none⟩)) v).run Try.prog w = putOr (storeIn w (blk w b) b o 3 v) (rawStore Try.prog 27 ⟨b, o, none⟩ v w) := store_any (by kernel_rfl) w b o v
theorem Try.al27 (w : World) : (allocOp 27).run Try.prog w = .ok (.value (.pointer (some ⟨w.heap.size, 0, none⟩))) (w.alloc (.cells (GProgram.enc (GProgram.zero : GProgram)).toArray 27)) := alloc_any (v := .agg (GProgram.enc (GProgram.zero : GProgram)).toArray) (by kernel_rfl) w
theorem Try.ld38 (w : World) (b o : Nat) : (loadOp 38 (.pointer (some ⟨b, o, none⟩))).run Try.prog w = lookOr (segAt (blk w b) o 3) w (rawLoad Try.prog 38 ⟨b, o, none⟩ w) := load_agg Try.underlying38 rfl (by kernel_rfl) w b o
theorem Try.st38 (w : World) (b o : Nat) (v : Value) : (storeOp 38 (.pointer (some ⟨b, o, none⟩)) v).run Try.prog w = putOr (storeIn w (blk w b) b o 3 v) (rawStore Try.prog 38 ⟨b, o, none⟩ v w) := store_any (by kernel_rfl) w b o v
theorem Try.al38 (w : World) : (allocOp 38).run Try.prog w = .ok (.value (.pointer (some ⟨w.heap.size, 0, none⟩))) (w.alloc (.cells (Answer.enc (Answer.zero : Answer)).toArray 38)) := alloc_any (v := .agg (Answer.enc (Answer.zero : Answer)).toArray) (by kernel_rfl) w
theorem Try.ld46 (w : World) (b o : Nat) : (loadOp 46 (.pointer (some ⟨b, o, none⟩))).run Try.prog w = lookOr (segAt (blk w b) o 2) w (rawLoad Try.prog 46 ⟨b, o, none⟩ w) := load_agg Try.underlying46 rfl (by kernel_rfl) w b o
theorem Try.st46 (w : World) (b o : Nat) (v : Value) : (storeOp 46 (.pointer (some ⟨b, o, none⟩)) v).run Try.prog w = putOr (storeIn w (blk w b) b o 2 v) (rawStore Try.prog 46 ⟨b, o, none⟩ v w) := store_any (by kernel_rfl) w b o v
theorem Try.al46 (w : World) : (allocOp 46).run Try.prog w = .ok (.value (.pointer (some ⟨w.heap.size, 0, none⟩))) (w.alloc (.cells (Term.enc (Term.zero : Term)).toArray 46)) := alloc_any (v := .agg (Term.enc (Term.zero : Term)).toArray) (by kernel_rfl) w
theorem Try.ld49 (w : World) (b o : Nat) : (loadOp 49 (.pointer (some ⟨b, o, none⟩))).run Try.prog w = lookOr (segAt (blk w b) o 9) w (rawLoad Try.prog 49 ⟨b, o, none⟩ w) := load_agg Try.underlying49 rfl (by kernel_rfl) w b o
theorem Try.st49 (w : World) (b o : Nat) (v : Value) : (storeOp 49 (.pointer (some ⟨b, o, none⟩)) v).run Try.prog w = putOr (storeIn w (blk w b) b o 9 v) (rawStore Try.prog 49 ⟨b, o, none⟩ v w) := store_any (by kernel_rfl) w b o v
theorem Try.al49 (w : World) : (allocOp 49).run Try.prog w = .ok (.value (.pointer (some ⟨w.heap.size, 0, none⟩))) (w.alloc (.cells (Atom.enc (Atom.zero : Atom)).toArray 49)) := alloc_any (v := .agg (Atom.enc (Atom.zero : Atom)).toArray) (by kernel_rfl) w
theorem Try.ld52 (w : World) (b o : Nat) : (loadOp 52 (.pointer (some ⟨b, o, none⟩))).run Try.prog w = lookOr (segAt (blk w b) o 10) w (rawLoad Try.prog 52 ⟨b, o, none⟩ w) := load_agg Try.underlying52 rfl (by kernel_rfl) w b o
theorem Try.st52 (w : World) (b o : Nat) (v : Value) : (storeOp 52 (.pointer (some ⟨b, o, none⟩)) v).run Try.prog w = putOr (storeIn w (blk w b) b o 10 v) (rawStore Try.prog 52 ⟨b, o, none⟩ v w) := store_any (by kernel_rfl) w b o v
theorem Try.al52 (w : World) : (allocOp 52).run Try.prog w = .ok (.value (.pointer (some ⟨w.heap.size, 0, none⟩))) (w.alloc (.cells (GRule.enc (GRule.zero : GRule)).toArray 52)) := alloc_any (v := .agg (GRule.enc (GRule.zero : GRule)).toArray) (by kernel_rfl) w
theorem Try.ld54 (w : World) (b o : Nat) : (loadOp 54 (.pointer (some ⟨b, o, none⟩))).run Try.prog w = lookOr (segAt (blk w b) o 18) w (rawLoad Try.prog 54 ⟨b, o, none⟩ w) := load_agg Try.underlying54 rfl (by kernel_rfl) w b o
theorem Try.st54 (w : World) (b o : Nat) (v : Value) : (storeOp 54 (.pointer (some ⟨b, o, none⟩)) v).run Try.prog w = putOr (storeIn w (blk w b) b o 18 v) (rawStore Try.prog 54 ⟨b, o, none⟩ v w) := store_any (by kernel_rfl) w b o v
theorem Try.al54 (w : World) : (allocOp 54).run Try.prog w = .ok (.value (.pointer (some ⟨w.heap.size, 0, none⟩))) (w.alloc (.cells (GOp.enc (GOp.zero : GOp)).toArray 54)) := alloc_any (v := .agg (GOp.enc (GOp.zero : GOp)).toArray) (by kernel_rfl) w
theorem Try.ld61 (w : World) (b o : Nat) : (loadOp 61 (.pointer (some ⟨b, o, none⟩))).run Try.prog w = lookOr (segAt (blk w b) o 3) w (rawLoad Try.prog 61 ⟨b, o, none⟩ w) := load_agg Try.underlying61 rfl (by kernel_rfl) w b o
theorem Try.st61 (w : World) (b o : Nat) (v : Value) : (storeOp 61 (.pointer (some ⟨b, o, none⟩)) v).run Try.prog w = putOr (storeIn w (blk w b) b o 3 v) (rawStore Try.prog 61 ⟨b, o, none⟩ v w) := store_any (by kernel_rfl) w b o v
theorem Try.al61 (w : World) : (allocOp 61).run Try.prog w = .ok (.value (.pointer (some ⟨w.heap.size, 0, none⟩))) (w.alloc (.cells (PredInfo.enc (PredInfo.zero : PredInfo)).toArray 61)) := alloc_any (v := .agg (PredInfo.enc (PredInfo.zero : PredInfo)).toArray) (by kernel_rfl) w
theorem Try.ld80 (w : World) (b o : Nat) : (loadOp 80 (.pointer (some ⟨b, o, none⟩))).run Try.prog w = lookOr (segAt (blk w b) o 4) w (rawLoad Try.prog 80 ⟨b, o, none⟩ w) := load_agg Try.underlying80 rfl (by kernel_rfl) w b o
theorem Try.st80 (w : World) (b o : Nat) (v : Value) : (storeOp 80 (.pointer (some ⟨b, o, none⟩)) v).run Try.prog w = putOr (storeIn w (blk w b) b o 4 v) (rawStore Try.prog 80 ⟨b, o, none⟩ v w) := store_any (by kernel_rfl) w b o v
theorem Try.al80 (w : World) : (allocOp 80).run Try.prog w = .ok (.value (.pointer (some ⟨w.heap.size, 0, none⟩))) (w.alloc (.cells (GStats.enc (GStats.zero : GStats)).toArray 80)) := alloc_any (v := .agg (GStats.enc (GStats.zero : GStats)).toArray) (by kernel_rfl) w
theorem Try.ld87 (w : World) (b o : Nat) : (loadOp 87 (.pointer (some ⟨b, o, none⟩))).run Try.prog w = lookOr (segAt (blk w b) o 10) w (rawLoad Try.prog 87 ⟨b, o, none⟩ w) := load_agg Try.underlying87 rfl (by kernel_rfl) w b o
theorem Try.st87 (w : World) (b o : Nat) (v : Value) : (storeOp 87 (.pointer (some ⟨b, o, none⟩)) v).run Try.prog w = putOr (storeIn w (blk w b) b o 10 v) (rawStore Try.prog 87 ⟨b, o, none⟩ v w) := store_any (by kernel_rfl) w b o v
theorem Try.al87 (w : World) : (allocOp 87).run Try.prog w = .ok (.value (.pointer (some ⟨w.heap.size, 0, none⟩))) (w.alloc (.cells (Literal.enc (Literal.zero : Literal)).toArray 87)) := alloc_any (v := .agg (Literal.enc (Literal.zero : Literal)).toArray) (by kernel_rfl) w
theorem Try.ld93 (w : World) (b o : Nat) : (loadOp 93 (.pointer (some ⟨b, o, none⟩))).run Try.prog w = lookOr (segAt (blk w b) o 13) w (rawLoad Try.prog 93 ⟨b, o, none⟩ w) := load_agg Try.underlying93 rfl (by kernel_rfl) w b o
theorem Try.st93 (w : World) (b o : Nat) (v : Value) : (storeOp 93 (.pointer (some ⟨b, o, none⟩)) v).run Try.prog w = putOr (storeIn w (blk w b) b o 13 v) (rawStore Try.prog 93 ⟨b, o, none⟩ v w) := store_any (by kernel_rfl) w b o v
theorem Try.al93 (w : World) : (allocOp 93).run Try.prog w = .ok (.value (.pointer (some ⟨w.heap.size, 0, none⟩))) (w.alloc (.cells (Engine.enc (Engine.zero : Engine)).toArray 93)) := alloc_any (v := .agg (Engine.enc (Engine.zero : Engine)).toArray) (by kernel_rfl) w
theorem Try.ld100 (w : World) (b o : Nat) : (loadOp 100 (.pointer (some ⟨b, o, none⟩))).run Try.prog w = lookOr (segAt (blk w b) o 2) w (rawLoad Try.prog 100 ⟨b, o, none⟩ w) := load_agg Try.underlying100 rfl (by kernel_rfl) w b o
theorem Try.st100 (w : World) (b o : Nat) (v : Value) : (storeOp 100 (.pointer (some ⟨b, o, none⟩)) v).run Try.prog w = putOr (storeIn w (blk w b) b o 2 v) (rawStore Try.prog 100 ⟨b, o, none⟩ v w) := store_any (by kernel_rfl) w b o v
theorem Try.al100 (w : World) : (allocOp 100).run Try.prog w = .ok (.value (.pointer (some ⟨w.heap.size, 0, none⟩))) (w.alloc (.cells (Level.enc (Level.zero : Level)).toArray 100)) := alloc_any (v := .agg (Level.enc (Level.zero : Level)).toArray) (by kernel_rfl) w
theorem Try.ld103 (w : World) (b o : Nat) : (loadOp 103 (.pointer (some ⟨b, o, none⟩))).run Try.prog w = lookOr (segAt (blk w b) o 3) w (rawLoad Try.prog 103 ⟨b, o, none⟩ w) := load_agg Try.underlying103 rfl (by kernel_rfl) w b o
theorem Try.st103 (w : World) (b o : Nat) (v : Value) : (storeOp 103 (.pointer (some ⟨b, o, none⟩)) v).run Try.prog w = putOr (storeIn w (blk w b) b o 3 v) (rawStore Try.prog 103 ⟨b, o, none⟩ v w) := store_any (by kernel_rfl) w b o v
theorem Try.al103 (w : World) : (allocOp 103).run Try.prog w = .ok (.value (.pointer (some ⟨w.heap.size, 0, none⟩))) (w.alloc (.cells (Plan.enc (Plan.zero : Plan)).toArray 103)) := alloc_any (v := .agg (Plan.enc (Plan.zero : Plan)).toArray) (by kernel_rfl) w
theorem Try.ld106 (w : World) (b o : Nat) : (loadOp 106 (.pointer (some ⟨b, o, none⟩))).run Try.prog w = lookOr (segAt (blk w b) o 4) w (rawLoad Try.prog 106 ⟨b, o, none⟩ w) := load_agg Try.underlying106 rfl (by kernel_rfl) w b o
theorem Try.st106 (w : World) (b o : Nat) (v : Value) : (storeOp 106 (.pointer (some ⟨b, o, none⟩)) v).run Try.prog w = putOr (storeIn w (blk w b) b o 4 v) (rawStore Try.prog 106 ⟨b, o, none⟩ v w) := store_any (by kernel_rfl) w b o v
theorem Try.al106 (w : World) : (allocOp 106).run Try.prog w = .ok (.value (.pointer (some ⟨w.heap.size, 0, none⟩))) (w.alloc (.cells (Job.enc (Job.zero : Job)).toArray 106)) := alloc_any (v := .agg (Job.enc (Job.zero : Job)).toArray) (by kernel_rfl) w
theorem Try.ld109 (w : World) (b o : Nat) : (loadOp 109 (.pointer (some ⟨b, o, none⟩))).run Try.prog w = lookOr (segAt (blk w b) o 5) w (rawLoad Try.prog 109 ⟨b, o, none⟩ w) := load_agg Try.underlying109 rfl (by kernel_rfl) w b o
theorem Try.st109 (w : World) (b o : Nat) (v : Value) : (storeOp 109 (.pointer (some ⟨b, o, none⟩)) v).run Try.prog w = putOr (storeIn w (blk w b) b o 5 v) (rawStore Try.prog 109 ⟨b, o, none⟩ v w) := store_any (by kernel_rfl) w b o v
theorem Try.al109 (w : World) : (allocOp 109).run Try.prog w = .ok (.value (.pointer (some ⟨w.heap.size, 0, none⟩))) (w.alloc (.cells (GState.enc (GState.zero : GState)).toArray 109)) := alloc_any (v := .agg (GState.enc (GState.zero : GState)).toArray) (by kernel_rfl) w
theorem Try.ld132 (w : World) (b o : Nat) : (loadOp 132 (.pointer (some ⟨b, o, none⟩))).run Try.prog w = lookOr (segAt (blk w b) o 2) w (rawLoad Try.prog 132 ⟨b, o, none⟩ w) := load_agg Try.underlying132 rfl (by kernel_rfl) w b o
theorem Try.st132 (w : World) (b o : Nat) (v : Value) : (storeOp 132 (.pointer (some ⟨b, o, none⟩)) v).run Try.prog w = putOr (storeIn w (blk w b) b o 2 v) (rawStore Try.prog 132 ⟨b, o, none⟩ v w) := store_any (by kernel_rfl) w b o v
theorem Try.al132 (w : World) : (allocOp 132).run Try.prog w = .ok (.value (.pointer (some ⟨w.heap.size, 0, none⟩))) (w.alloc (.cells (Store.enc (Store.zero : Store)).toArray 132)) := alloc_any (v := .agg (Store.enc (Store.zero : Store)).toArray) (by kernel_rfl) w
theorem Try.ld147 (w : World) (b o : Nat) : (loadOp 147 (.pointer (some ⟨b, o, none⟩))).run Try.prog w = lookOr (segAt (blk w b) o 64) w (rawLoad Try.prog 147 ⟨b, o, none⟩ w) := load_agg Try.underlying147 rfl (by kernel_rfl) w b o
theorem Try.st147 (w : World) (b o : Nat) (v : Value) : (storeOp 147 (.pointer (some ⟨b, o, none⟩)) v).run Try.prog w = putOr (storeIn w (blk w b) b o 64 v) (rawStore Try.prog 147 ⟨b, o, none⟩ v w) := store_any (by kernel_rfl) w b o v
theorem Try.al147 (w : World) : (allocOp 147).run Try.prog w = .ok (.value (.pointer (some ⟨w.heap.size, 0, none⟩))) (w.alloc (.cells (Env.enc (Env.zero : Env)).toArray 147)) := alloc_any (v := .agg (Env.enc (Env.zero : Env)).toArray) (by kernel_rfl) w
end Go.Proofs.Qxb6500788a
