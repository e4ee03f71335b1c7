/- WRITTEN BY A PROGRAM (tools/gentypes.py) off the dump's types: Go's structs as Lean structures, their cells, their fields' places. -/
import Derived.Test.Qxb6500785aProg
import Derived.Test.Qxb6500785aMem
namespace Go.Proofs.Qxb6500785a
open Go.Blk
set_option linter.unusedSimpArgs false

structure Hasher where
  state : (Vector UInt32 8)
  block : (Vector UInt8 64)
  fill : Int
  length : UInt64
def Hasher.zero : Hasher := ⟨(Vector.replicate 8 0), (Vector.replicate 64 0), 0, 0⟩
def Hasher.enc (x : Hasher) : List Value :=
  arr u32v x.state ++ (arr u8v x.block ++ ([.int .i64 x.fill] ++ ([.int .u64 (w64 x.length)])))
theorem Hasher.length_enc (x : Hasher) : x.enc.length = 74 := by simp [Hasher.enc, length_arr, length_arrS]
theorem Hasher.one_enc (x : Hasher) : x.enc.all (fun v => v.oneCell') = true := by simp only [Hasher.enc, List.all_append, List.all_cons, List.all_nil, oneC_int, oneC_bool, oneC_string, oneC_pointer, oneC_slice, Bool.and_true, Bool.true_and, implies_true, one_arr_u8, one_arr_u32, one_arr_u64, one_arr_i64, one_arr_bool, one_arr_str, one_arr_ptr, one_arr_sl, one_arrS, one_u8, one_u32, one_u64, one_i64, one_bool, one_str, one_sl, one_ptr]
theorem Hasher.ok_enc (x : Hasher) : okCells 74 x.enc = true := ok_mk x.length_enc x.one_enc
theorem Hasher.all_get (x : Hasher) : seg x.enc 0 74 = x.enc := seg_all _ _ x.length_enc
theorem Hasher.all_set (x y : Hasher) : splice x.enc 0 y.enc = y.enc := splice_all _ _ (by rw [x.length_enc, y.length_enc])
theorem Hasher.state_get (x : Hasher) : seg x.enc 0 8 = arr u32v x.state := part_of (pre := ([] : List Value)) (post := (arr u8v x.block ++ [.int .i64 x.fill] ++ [.int .u64 (w64 x.length)] : List Value)) (by simp [Hasher.enc]) (by simp [length_arr, length_arrS]) (by simp [length_arr, length_arrS])
theorem Hasher.state_set (x : Hasher) (y : (Vector UInt32 8)) : splice x.enc 0 (arr u32v y) = ({ x with state := y } : Hasher).enc := by
  rw [splice_of (pre := ([] : List Value)) (mid := arr u32v x.state) (post := (arr u8v x.block ++ [.int .i64 x.fill] ++ [.int .u64 (w64 x.length)] : List Value)) (by simp [Hasher.enc]) (by simp [length_arr, length_arrS]) (by simp [length_arr, length_arrS])]
  simp [Hasher.enc]
theorem Hasher.state_at (x : Hasher) (i : Nat) (h : i < 8) : nth x.enc (0 + i) = some (.int .u32 (w32 x.state[i])) := by
  exact (get_sub (Hasher.state_get x) (by simp [length_arr, length_arrS]; omega)).trans (arr_at _ _ h)
theorem Hasher.state_put (x : Hasher) (i : Nat) (y : UInt32) (h : i < 8) : splice x.enc (0 + i) [.int .u32 (w32 y)] = ({ x with state := x.state.set i y h } : Hasher).enc := by
  rw [splice_sub (Hasher.state_get x) (by simp [Hasher.length_enc]) (by simp; omega)]
  rw [show ([.int .u32 (w32 y)] : List Value) = [u32v y] from rfl, arr_put _ _ _ h, Hasher.state_set]
theorem Hasher.block_get (x : Hasher) : seg x.enc 8 64 = arr u8v x.block := part_of (pre := (arr u32v x.state : List Value)) (post := ([.int .i64 x.fill] ++ [.int .u64 (w64 x.length)] : List Value)) (by simp [Hasher.enc]) (by simp [length_arr, length_arrS]) (by simp [length_arr, length_arrS])
theorem Hasher.block_set (x : Hasher) (y : (Vector UInt8 64)) : splice x.enc 8 (arr u8v y) = ({ x with block := y } : Hasher).enc := by
  rw [splice_of (pre := (arr u32v x.state : List Value)) (mid := arr u8v x.block) (post := ([.int .i64 x.fill] ++ [.int .u64 (w64 x.length)] : List Value)) (by simp [Hasher.enc]) (by simp [length_arr, length_arrS]) (by simp [length_arr, length_arrS])]
  simp [Hasher.enc]
theorem Hasher.block_at (x : Hasher) (i : Nat) (h : i < 64) : nth x.enc (8 + i) = some (.int .u8 (w8 x.block[i])) := by
  exact (get_sub (Hasher.block_get x) (by simp [length_arr, length_arrS]; omega)).trans (arr_at _ _ h)
theorem Hasher.block_put (x : Hasher) (i : Nat) (y : UInt8) (h : i < 64) : splice x.enc (8 + i) [.int .u8 (w8 y)] = ({ x with block := x.block.set i y h } : Hasher).enc := by
  rw [splice_sub (Hasher.block_get x) (by simp [Hasher.length_enc]) (by simp; omega)]
  rw [show ([.int .u8 (w8 y)] : List Value) = [u8v y] from rfl, arr_put _ _ _ h, Hasher.block_set]
theorem Hasher.fill_get (x : Hasher) : nth x.enc 72 = some (.int .i64 x.fill) := get_of (pre := (arr u32v x.state ++ arr u8v x.block : List Value)) (post := ([.int .u64 (w64 x.length)] : List Value)) (by simp [Hasher.enc]) (by simp [length_arr, length_arrS])
theorem Hasher.fill_set (x : Hasher) (y : Int) : splice x.enc 72 ([.int .i64 y]) = ({ x with fill := y } : Hasher).enc := by
  rw [splice_of (pre := (arr u32v x.state ++ arr u8v x.block : List Value)) (mid := [.int .i64 x.fill]) (post := ([.int .u64 (w64 x.length)] : List Value)) (by simp [Hasher.enc]) (by simp [length_arr, length_arrS]) (by simp [length_arr, length_arrS])]
  simp [Hasher.enc]
theorem Hasher.length_get (x : Hasher) : nth x.enc 73 = some (.int .u64 (w64 x.length)) := get_of (pre := (arr u32v x.state ++ arr u8v x.block ++ [.int .i64 x.fill] : List Value)) (post := ([] : List Value)) (by simp [Hasher.enc]) (by simp [length_arr, length_arrS])
theorem Hasher.length_set (x : Hasher) (y : UInt64) : splice x.enc 73 ([.int .u64 (w64 y)]) = ({ x with length := y } : Hasher).enc := by
  rw [splice_of (pre := (arr u32v x.state ++ arr u8v x.block ++ [.int .i64 x.fill] : List Value)) (mid := [.int .u64 (w64 x.length)]) (post := ([] : List Value)) (by simp [Hasher.enc]) (by simp [length_arr, length_arrS]) (by simp [length_arr, length_arrS])]
  simp [Hasher.enc]

structure GLog where
  entries : Sl
  shelves : (Vector Sl 64)
  first : Int
  second : Int
  found : Bool
def GLog.zero : GLog := ⟨⟨none, 0, 0⟩, (Vector.replicate 64 ⟨none, 0, 0⟩), 0, 0, false⟩
def GLog.enc (x : GLog) : List Value :=
  [Sl.val x.entries] ++ (arr Sl.val x.shelves ++ ([.int .i64 x.first] ++ ([.int .i64 x.second] ++ ([.bool x.found]))))
theorem GLog.length_enc (x : GLog) : x.enc.length = 68 := by simp [GLog.enc, length_arr, length_arrS, Hasher.length_enc]
theorem GLog.one_enc (x : GLog) : x.enc.all (fun v => v.oneCell') = true := by simp only [GLog.enc, List.all_append, List.all_cons, List.all_nil, oneC_int, oneC_bool, oneC_string, oneC_pointer, oneC_slice, Bool.and_true, Bool.true_and, implies_true, one_arr_u8, one_arr_u32, one_arr_u64, one_arr_i64, one_arr_bool, one_arr_str, one_arr_ptr, one_arr_sl, one_arrS, one_u8, one_u32, one_u64, one_i64, one_bool, one_str, one_sl, one_ptr, Hasher.one_enc]
theorem GLog.ok_enc (x : GLog) : okCells 68 x.enc = true := ok_mk x.length_enc x.one_enc
theorem GLog.all_get (x : GLog) : seg x.enc 0 68 = x.enc := seg_all _ _ x.length_enc
theorem GLog.all_set (x y : GLog) : splice x.enc 0 y.enc = y.enc := splice_all _ _ (by rw [x.length_enc, y.length_enc])
theorem GLog.entries_get (x : GLog) : nth x.enc 0 = some (Sl.val x.entries) := get_of (pre := ([] : List Value)) (post := (arr Sl.val x.shelves ++ [.int .i64 x.first] ++ [.int .i64 x.second] ++ [.bool x.found] : List Value)) (by simp [GLog.enc]) (by simp [length_arr, length_arrS, Hasher.length_enc])
theorem GLog.entries_set (x : GLog) (y : Sl) : splice x.enc 0 ([Sl.val y]) = ({ x with entries := y } : GLog).enc := by
  rw [splice_of (pre := ([] : List Value)) (mid := [Sl.val x.entries]) (post := (arr Sl.val x.shelves ++ [.int .i64 x.first] ++ [.int .i64 x.second] ++ [.bool x.found] : List Value)) (by simp [GLog.enc]) (by simp [length_arr, length_arrS, Hasher.length_enc]) (by simp [length_arr, length_arrS, Hasher.length_enc])]
  simp [GLog.enc]
theorem GLog.shelves_get (x : GLog) : seg x.enc 1 64 = arr Sl.val x.shelves := part_of (pre := ([Sl.val x.entries] : List Value)) (post := ([.int .i64 x.first] ++ [.int .i64 x.second] ++ [.bool x.found] : List Value)) (by simp [GLog.enc]) (by simp [length_arr, length_arrS, Hasher.length_enc]) (by simp [length_arr, length_arrS, Hasher.length_enc])
theorem GLog.shelves_set (x : GLog) (y : (Vector Sl 64)) : splice x.enc 1 (arr Sl.val y) = ({ x with shelves := y } : GLog).enc := by
  rw [splice_of (pre := ([Sl.val x.entries] : List Value)) (mid := arr Sl.val x.shelves) (post := ([.int .i64 x.first] ++ [.int .i64 x.second] ++ [.bool x.found] : List Value)) (by simp [GLog.enc]) (by simp [length_arr, length_arrS, Hasher.length_enc]) (by simp [length_arr, length_arrS, Hasher.length_enc])]
  simp [GLog.enc]
theorem GLog.shelves_at (x : GLog) (i : Nat) (h : i < 64) : nth x.enc (1 + i) = some (Sl.val x.shelves[i]) := by
  exact (get_sub (GLog.shelves_get x) (by simp [length_arr, length_arrS, Hasher.length_enc]; omega)).trans (arr_at _ _ h)
theorem GLog.shelves_put (x : GLog) (i : Nat) (y : Sl) (h : i < 64) : splice x.enc (1 + i) [Sl.val y] = ({ x with shelves := x.shelves.set i y h } : GLog).enc := by
  rw [splice_sub (GLog.shelves_get x) (by simp [GLog.length_enc]) (by simp; omega)]
  rw [show ([Sl.val y] : List Value) = [Sl.val y] from rfl, arr_put _ _ _ h, GLog.shelves_set]
theorem GLog.first_get (x : GLog) : nth x.enc 65 = some (.int .i64 x.first) := get_of (pre := ([Sl.val x.entries] ++ arr Sl.val x.shelves : List Value)) (post := ([.int .i64 x.second] ++ [.bool x.found] : List Value)) (by simp [GLog.enc]) (by simp [length_arr, length_arrS, Hasher.length_enc])
theorem GLog.first_set (x : GLog) (y : Int) : splice x.enc 65 ([.int .i64 y]) = ({ x with first := y } : GLog).enc := by
  rw [splice_of (pre := ([Sl.val x.entries] ++ arr Sl.val x.shelves : List Value)) (mid := [.int .i64 x.first]) (post := ([.int .i64 x.second] ++ [.bool x.found] : List Value)) (by simp [GLog.enc]) (by simp [length_arr, length_arrS, Hasher.length_enc]) (by simp [length_arr, length_arrS, Hasher.length_enc])]
  simp [GLog.enc]
theorem GLog.second_get (x : GLog) : nth x.enc 66 = some (.int .i64 x.second) := get_of (pre := ([Sl.val x.entries] ++ arr Sl.val x.shelves ++ [.int .i64 x.first] : List Value)) (post := ([.bool x.found] : List Value)) (by simp [GLog.enc]) (by simp [length_arr, length_arrS, Hasher.length_enc])
theorem GLog.second_set (x : GLog) (y : Int) : splice x.enc 66 ([.int .i64 y]) = ({ x with second := y } : GLog).enc := by
  rw [splice_of (pre := ([Sl.val x.entries] ++ arr Sl.val x.shelves ++ [.int .i64 x.first] : List Value)) (mid := [.int .i64 x.second]) (post := ([.bool x.found] : List Value)) (by simp [GLog.enc]) (by simp [length_arr, length_arrS, Hasher.length_enc]) (by simp [length_arr, length_arrS, Hasher.length_enc])]
  simp [GLog.enc]
theorem GLog.found_get (x : GLog) : nth x.enc 67 = some (.bool x.found) := get_of (pre := ([Sl.val x.entries] ++ arr Sl.val x.shelves ++ [.int .i64 x.first] ++ [.int .i64 x.second] : List Value)) (post := ([] : List Value)) (by simp [GLog.enc]) (by simp [length_arr, length_arrS, Hasher.length_enc])
theorem GLog.found_set (x : GLog) (y : Bool) : splice x.enc 67 ([.bool y]) = ({ x with found := y } : GLog).enc := by
  rw [splice_of (pre := ([Sl.val x.entries] ++ arr Sl.val x.shelves ++ [.int .i64 x.first] ++ [.int .i64 x.second] : List Value)) (mid := [.bool x.found]) (post := ([] : List Value)) (by simp [GLog.enc]) (by simp [length_arr, length_arrS, Hasher.length_enc]) (by simp [length_arr, length_arrS, Hasher.length_enc])]
  simp [GLog.enc]

structure Player where
  hand : Hasher
  aside : Hasher
  prev : (Vector UInt8 32)
  last : (Vector UInt8 32)
  log : GLog
def Player.zero : Player := ⟨Hasher.zero, Hasher.zero, (Vector.replicate 32 0), (Vector.replicate 32 0), GLog.zero⟩
def Player.enc (x : Player) : List Value :=
  Hasher.enc x.hand ++ (Hasher.enc x.aside ++ (arr u8v x.prev ++ (arr u8v x.last ++ (GLog.enc x.log))))
theorem Player.length_enc (x : Player) : x.enc.length = 280 := by simp [Player.enc, length_arr, length_arrS, Hasher.length_enc, GLog.length_enc]
theorem Player.one_enc (x : Player) : x.enc.all (fun v => v.oneCell') = true := by simp only [Player.enc, List.all_append, List.all_cons, List.all_nil, oneC_int, oneC_bool, oneC_string, oneC_pointer, oneC_slice, Bool.and_true, Bool.true_and, implies_true, one_arr_u8, one_arr_u32, one_arr_u64, one_arr_i64, one_arr_bool, one_arr_str, one_arr_ptr, one_arr_sl, one_arrS, one_u8, one_u32, one_u64, one_i64, one_bool, one_str, one_sl, one_ptr, Hasher.one_enc, GLog.one_enc]
theorem Player.ok_enc (x : Player) : okCells 280 x.enc = true := ok_mk x.length_enc x.one_enc
theorem Player.all_get (x : Player) : seg x.enc 0 280 = x.enc := seg_all _ _ x.length_enc
theorem Player.all_set (x y : Player) : splice x.enc 0 y.enc = y.enc := splice_all _ _ (by rw [x.length_enc, y.length_enc])
theorem Player.hand_get (x : Player) : seg x.enc 0 74 = Hasher.enc x.hand := part_of (pre := ([] : List Value)) (post := (Hasher.enc x.aside ++ arr u8v x.prev ++ arr u8v x.last ++ GLog.enc x.log : List Value)) (by simp [Player.enc]) (by simp [length_arr, length_arrS, Hasher.length_enc, GLog.length_enc]) (by simp [length_arr, length_arrS, Hasher.length_enc, GLog.length_enc])
theorem Player.hand_set (x : Player) (y : Hasher) : splice x.enc 0 (Hasher.enc y) = ({ x with hand := y } : Player).enc := by
  rw [splice_of (pre := ([] : List Value)) (mid := Hasher.enc x.hand) (post := (Hasher.enc x.aside ++ arr u8v x.prev ++ arr u8v x.last ++ GLog.enc x.log : List Value)) (by simp [Player.enc]) (by simp [length_arr, length_arrS, Hasher.length_enc, GLog.length_enc]) (by simp [length_arr, length_arrS, Hasher.length_enc, GLog.length_enc])]
  simp [Player.enc]
theorem Player.aside_get (x : Player) : seg x.enc 74 74 = Hasher.enc x.aside := part_of (pre := (Hasher.enc x.hand : List Value)) (post := (arr u8v x.prev ++ arr u8v x.last ++ GLog.enc x.log : List Value)) (by simp [Player.enc]) (by simp [length_arr, length_arrS, Hasher.length_enc, GLog.length_enc]) (by simp [length_arr, length_arrS, Hasher.length_enc, GLog.length_enc])
theorem Player.aside_set (x : Player) (y : Hasher) : splice x.enc 74 (Hasher.enc y) = ({ x with aside := y } : Player).enc := by
  rw [splice_of (pre := (Hasher.enc x.hand : List Value)) (mid := Hasher.enc x.aside) (post := (arr u8v x.prev ++ arr u8v x.last ++ GLog.enc x.log : List Value)) (by simp [Player.enc]) (by simp [length_arr, length_arrS, Hasher.length_enc, GLog.length_enc]) (by simp [length_arr, length_arrS, Hasher.length_enc, GLog.length_enc])]
  simp [Player.enc]
theorem Player.prev_get (x : Player) : seg x.enc 148 32 = arr u8v x.prev := part_of (pre := (Hasher.enc x.hand ++ Hasher.enc x.aside : List Value)) (post := (arr u8v x.last ++ GLog.enc x.log : List Value)) (by simp [Player.enc]) (by simp [length_arr, length_arrS, Hasher.length_enc, GLog.length_enc]) (by simp [length_arr, length_arrS, Hasher.length_enc, GLog.length_enc])
theorem Player.prev_set (x : Player) (y : (Vector UInt8 32)) : splice x.enc 148 (arr u8v y) = ({ x with prev := y } : Player).enc := by
  rw [splice_of (pre := (Hasher.enc x.hand ++ Hasher.enc x.aside : List Value)) (mid := arr u8v x.prev) (post := (arr u8v x.last ++ GLog.enc x.log : List Value)) (by simp [Player.enc]) (by simp [length_arr, length_arrS, Hasher.length_enc, GLog.length_enc]) (by simp [length_arr, length_arrS, Hasher.length_enc, GLog.length_enc])]
  simp [Player.enc]
theorem Player.prev_at (x : Player) (i : Nat) (h : i < 32) : nth x.enc (148 + i) = some (.int .u8 (w8 x.prev[i])) := by
  exact (get_sub (Player.prev_get x) (by simp [length_arr, length_arrS, Hasher.length_enc, GLog.length_enc]; omega)).trans (arr_at _ _ h)
theorem Player.prev_put (x : Player) (i : Nat) (y : UInt8) (h : i < 32) : splice x.enc (148 + i) [.int .u8 (w8 y)] = ({ x with prev := x.prev.set i y h } : Player).enc := by
  rw [splice_sub (Player.prev_get x) (by simp [Player.length_enc]) (by simp; omega)]
  rw [show ([.int .u8 (w8 y)] : List Value) = [u8v y] from rfl, arr_put _ _ _ h, Player.prev_set]
theorem Player.last_get (x : Player) : seg x.enc 180 32 = arr u8v x.last := part_of (pre := (Hasher.enc x.hand ++ Hasher.enc x.aside ++ arr u8v x.prev : List Value)) (post := (GLog.enc x.log : List Value)) (by simp [Player.enc]) (by simp [length_arr, length_arrS, Hasher.length_enc, GLog.length_enc]) (by simp [length_arr, length_arrS, Hasher.length_enc, GLog.length_enc])
theorem Player.last_set (x : Player) (y : (Vector UInt8 32)) : splice x.enc 180 (arr u8v y) = ({ x with last := y } : Player).enc := by
  rw [splice_of (pre := (Hasher.enc x.hand ++ Hasher.enc x.aside ++ arr u8v x.prev : List Value)) (mid := arr u8v x.last) (post := (GLog.enc x.log : List Value)) (by simp [Player.enc]) (by simp [length_arr, length_arrS, Hasher.length_enc, GLog.length_enc]) (by simp [length_arr, length_arrS, Hasher.length_enc, GLog.length_enc])]
  simp [Player.enc]
theorem Player.last_at (x : Player) (i : Nat) (h : i < 32) : nth x.enc (180 + i) = some (.int .u8 (w8 x.last[i])) := by
  exact (get_sub (Player.last_get x) (by simp [length_arr, length_arrS, Hasher.length_enc, GLog.length_enc]; omega)).trans (arr_at _ _ h)
theorem Player.last_put (x : Player) (i : Nat) (y : UInt8) (h : i < 32) : splice x.enc (180 + i) [.int .u8 (w8 y)] = ({ x with last := x.last.set i y h } : Player).enc := by
  rw [splice_sub (Player.last_get x) (by simp [Player.length_enc]) (by simp; omega)]
  rw [show ([.int .u8 (w8 y)] : List Value) = [u8v y] from rfl, arr_put _ _ _ h, Player.last_set]
theorem Player.log_get (x : Player) : seg x.enc 212 68 = GLog.enc x.log := part_of (pre := (Hasher.enc x.hand ++ Hasher.enc x.aside ++ arr u8v x.prev ++ arr u8v x.last : List Value)) (post := ([] : List Value)) (by simp [Player.enc]) (by simp [length_arr, length_arrS, Hasher.length_enc, GLog.length_enc]) (by simp [length_arr, length_arrS, Hasher.length_enc, GLog.length_enc])
theorem Player.log_set (x : Player) (y : GLog) : splice x.enc 212 (GLog.enc y) = ({ x with log := y } : Player).enc := by
  rw [splice_of (pre := (Hasher.enc x.hand ++ Hasher.enc x.aside ++ arr u8v x.prev ++ arr u8v x.last : List Value)) (mid := GLog.enc x.log) (post := ([] : List Value)) (by simp [Player.enc]) (by simp [length_arr, length_arrS, Hasher.length_enc, GLog.length_enc]) (by simp [length_arr, length_arrS, Hasher.length_enc, GLog.length_enc])]
  simp [Player.enc]
theorem Player.hand_state_get (x : Player) : seg x.enc 0 8 = arr u32v x.hand.state :=
  (part_sub (a := 0) (j := 0) (Player.hand_get x) (by simp [Hasher.length_enc])).trans (Hasher.state_get _)
theorem Player.hand_state_set (x : Player) (y : (Vector UInt32 8)) : splice x.enc 0 (arr u32v y) = ({ x with hand := { x.hand with state := y } } : Player).enc := by
  rw [show 0 = 0 + 0 from rfl, splice_sub (Player.hand_get x) (by simp [Player.length_enc]) (by simp [length_arr, length_arrS, Hasher.length_enc, GLog.length_enc]), Hasher.state_set, Player.hand_set]
theorem Player.hand_block_get (x : Player) : seg x.enc 8 64 = arr u8v x.hand.block :=
  (part_sub (a := 0) (j := 8) (Player.hand_get x) (by simp [Hasher.length_enc])).trans (Hasher.block_get _)
theorem Player.hand_block_set (x : Player) (y : (Vector UInt8 64)) : splice x.enc 8 (arr u8v y) = ({ x with hand := { x.hand with block := y } } : Player).enc := by
  rw [show 8 = 0 + 8 from rfl, splice_sub (Player.hand_get x) (by simp [Player.length_enc]) (by simp [length_arr, length_arrS, Hasher.length_enc, GLog.length_enc]), Hasher.block_set, Player.hand_set]
theorem Player.hand_fill_get (x : Player) : nth x.enc 72 = some (.int .i64 x.hand.fill) :=
  (get_sub (a := 0) (j := 72) (Player.hand_get x) (by simp [Hasher.length_enc])).trans (Hasher.fill_get _)
theorem Player.hand_fill_set (x : Player) (y : Int) : splice x.enc 72 ([.int .i64 y]) = ({ x with hand := { x.hand with fill := y } } : Player).enc := by
  rw [show 72 = 0 + 72 from rfl, splice_sub (Player.hand_get x) (by simp [Player.length_enc]) (by simp [length_arr, length_arrS, Hasher.length_enc, GLog.length_enc]), Hasher.fill_set, Player.hand_set]
theorem Player.hand_length_get (x : Player) : nth x.enc 73 = some (.int .u64 (w64 x.hand.length)) :=
  (get_sub (a := 0) (j := 73) (Player.hand_get x) (by simp [Hasher.length_enc])).trans (Hasher.length_get _)
theorem Player.hand_length_set (x : Player) (y : UInt64) : splice x.enc 73 ([.int .u64 (w64 y)]) = ({ x with hand := { x.hand with length := y } } : Player).enc := by
  rw [show 73 = 0 + 73 from rfl, splice_sub (Player.hand_get x) (by simp [Player.length_enc]) (by simp [length_arr, length_arrS, Hasher.length_enc, GLog.length_enc]), Hasher.length_set, Player.hand_set]
theorem Player.aside_state_get (x : Player) : seg x.enc 74 8 = arr u32v x.aside.state :=
  (part_sub (a := 74) (j := 0) (Player.aside_get x) (by simp [Hasher.length_enc])).trans (Hasher.state_get _)
theorem Player.aside_state_set (x : Player) (y : (Vector UInt32 8)) : splice x.enc 74 (arr u32v y) = ({ x with aside := { x.aside with state := y } } : Player).enc := by
  rw [show 74 = 74 + 0 from rfl, splice_sub (Player.aside_get x) (by simp [Player.length_enc]) (by simp [length_arr, length_arrS, Hasher.length_enc, GLog.length_enc]), Hasher.state_set, Player.aside_set]
theorem Player.aside_block_get (x : Player) : seg x.enc 82 64 = arr u8v x.aside.block :=
  (part_sub (a := 74) (j := 8) (Player.aside_get x) (by simp [Hasher.length_enc])).trans (Hasher.block_get _)
theorem Player.aside_block_set (x : Player) (y : (Vector UInt8 64)) : splice x.enc 82 (arr u8v y) = ({ x with aside := { x.aside with block := y } } : Player).enc := by
  rw [show 82 = 74 + 8 from rfl, splice_sub (Player.aside_get x) (by simp [Player.length_enc]) (by simp [length_arr, length_arrS, Hasher.length_enc, GLog.length_enc]), Hasher.block_set, Player.aside_set]
theorem Player.aside_fill_get (x : Player) : nth x.enc 146 = some (.int .i64 x.aside.fill) :=
  (get_sub (a := 74) (j := 72) (Player.aside_get x) (by simp [Hasher.length_enc])).trans (Hasher.fill_get _)
theorem Player.aside_fill_set (x : Player) (y : Int) : splice x.enc 146 ([.int .i64 y]) = ({ x with aside := { x.aside with fill := y } } : Player).enc := by
  rw [show 146 = 74 + 72 from rfl, splice_sub (Player.aside_get x) (by simp [Player.length_enc]) (by simp [length_arr, length_arrS, Hasher.length_enc, GLog.length_enc]), Hasher.fill_set, Player.aside_set]
theorem Player.aside_length_get (x : Player) : nth x.enc 147 = some (.int .u64 (w64 x.aside.length)) :=
  (get_sub (a := 74) (j := 73) (Player.aside_get x) (by simp [Hasher.length_enc])).trans (Hasher.length_get _)
theorem Player.aside_length_set (x : Player) (y : UInt64) : splice x.enc 147 ([.int .u64 (w64 y)]) = ({ x with aside := { x.aside with length := y } } : Player).enc := by
  rw [show 147 = 74 + 73 from rfl, splice_sub (Player.aside_get x) (by simp [Player.length_enc]) (by simp [length_arr, length_arrS, Hasher.length_enc, GLog.length_enc]), Hasher.length_set, Player.aside_set]
theorem Player.log_entries_get (x : Player) : nth x.enc 212 = some (Sl.val x.log.entries) :=
  (get_sub (a := 212) (j := 0) (Player.log_get x) (by simp [GLog.length_enc])).trans (GLog.entries_get _)
theorem Player.log_entries_set (x : Player) (y : Sl) : splice x.enc 212 ([Sl.val y]) = ({ x with log := { x.log with entries := y } } : Player).enc := by
  rw [show 212 = 212 + 0 from rfl, splice_sub (Player.log_get x) (by simp [Player.length_enc]) (by simp [length_arr, length_arrS, Hasher.length_enc, GLog.length_enc]), GLog.entries_set, Player.log_set]
theorem Player.log_shelves_get (x : Player) : seg x.enc 213 64 = arr Sl.val x.log.shelves :=
  (part_sub (a := 212) (j := 1) (Player.log_get x) (by simp [GLog.length_enc])).trans (GLog.shelves_get _)
theorem Player.log_shelves_set (x : Player) (y : (Vector Sl 64)) : splice x.enc 213 (arr Sl.val y) = ({ x with log := { x.log with shelves := y } } : Player).enc := by
  rw [show 213 = 212 + 1 from rfl, splice_sub (Player.log_get x) (by simp [Player.length_enc]) (by simp [length_arr, length_arrS, Hasher.length_enc, GLog.length_enc]), GLog.shelves_set, Player.log_set]
theorem Player.log_first_get (x : Player) : nth x.enc 277 = some (.int .i64 x.log.first) :=
  (get_sub (a := 212) (j := 65) (Player.log_get x) (by simp [GLog.length_enc])).trans (GLog.first_get _)
theorem Player.log_first_set (x : Player) (y : Int) : splice x.enc 277 ([.int .i64 y]) = ({ x with log := { x.log with first := y } } : Player).enc := by
  rw [show 277 = 212 + 65 from rfl, splice_sub (Player.log_get x) (by simp [Player.length_enc]) (by simp [length_arr, length_arrS, Hasher.length_enc, GLog.length_enc]), GLog.first_set, Player.log_set]
theorem Player.log_second_get (x : Player) : nth x.enc 278 = some (.int .i64 x.log.second) :=
  (get_sub (a := 212) (j := 66) (Player.log_get x) (by simp [GLog.length_enc])).trans (GLog.second_get _)
theorem Player.log_second_set (x : Player) (y : Int) : splice x.enc 278 ([.int .i64 y]) = ({ x with log := { x.log with second := y } } : Player).enc := by
  rw [show 278 = 212 + 66 from rfl, splice_sub (Player.log_get x) (by simp [Player.length_enc]) (by simp [length_arr, length_arrS, Hasher.length_enc, GLog.length_enc]), GLog.second_set, Player.log_set]
theorem Player.log_found_get (x : Player) : nth x.enc 279 = some (.bool x.log.found) :=
  (get_sub (a := 212) (j := 67) (Player.log_get x) (by simp [GLog.length_enc])).trans (GLog.found_get _)
theorem Player.log_found_set (x : Player) (y : Bool) : splice x.enc 279 ([.bool y]) = ({ x with log := { x.log with found := y } } : Player).enc := by
  rw [show 279 = 212 + 67 from rfl, splice_sub (Player.log_get x) (by simp [Player.length_enc]) (by simp [length_arr, length_arrS, Hasher.length_enc, GLog.length_enc]), GLog.found_set, Player.log_set]

structure GOp where
  kind : Int
  data : Sl
  cut : Int
  n : Int
  b : UInt8
  v : UInt64
  dom : UInt8
  sum : (Vector UInt8 32)
def GOp.zero : GOp := ⟨0, ⟨none, 0, 0⟩, 0, 0, 0, 0, 0, (Vector.replicate 32 0)⟩
def GOp.enc (x : GOp) : List Value :=
  [.int .i64 x.kind] ++ ([Sl.val x.data] ++ ([.int .i64 x.cut] ++ ([.int .i64 x.n] ++ ([.int .u8 (w8 x.b)] ++ ([.int .u64 (w64 x.v)] ++ ([.int .u8 (w8 x.dom)] ++ (arr u8v x.sum)))))))
theorem GOp.length_enc (x : GOp) : x.enc.length = 39 := by simp [GOp.enc, length_arr, length_arrS, Hasher.length_enc, GLog.length_enc, Player.length_enc]
theorem GOp.one_enc (x : GOp) : x.enc.all (fun v => v.oneCell') = true := by simp only [GOp.enc, List.all_append, List.all_cons, List.all_nil, oneC_int, oneC_bool, oneC_string, oneC_pointer, oneC_slice, Bool.and_true, Bool.true_and, implies_true, one_arr_u8, one_arr_u32, one_arr_u64, one_arr_i64, one_arr_bool, one_arr_str, one_arr_ptr, one_arr_sl, one_arrS, one_u8, one_u32, one_u64, one_i64, one_bool, one_str, one_sl, one_ptr, Hasher.one_enc, GLog.one_enc, Player.one_enc]
theorem GOp.ok_enc (x : GOp) : okCells 39 x.enc = true := ok_mk x.length_enc x.one_enc
theorem GOp.all_get (x : GOp) : seg x.enc 0 39 = x.enc := seg_all _ _ x.length_enc
theorem GOp.all_set (x y : GOp) : splice x.enc 0 y.enc = y.enc := splice_all _ _ (by rw [x.length_enc, y.length_enc])
theorem GOp.kind_get (x : GOp) : nth x.enc 0 = some (.int .i64 x.kind) := get_of (pre := ([] : List Value)) (post := ([Sl.val x.data] ++ [.int .i64 x.cut] ++ [.int .i64 x.n] ++ [.int .u8 (w8 x.b)] ++ [.int .u64 (w64 x.v)] ++ [.int .u8 (w8 x.dom)] ++ arr u8v x.sum : List Value)) (by simp [GOp.enc]) (by simp [length_arr, length_arrS, Hasher.length_enc, GLog.length_enc, Player.length_enc])
theorem GOp.kind_set (x : GOp) (y : Int) : splice x.enc 0 ([.int .i64 y]) = ({ x with kind := y } : GOp).enc := by
  rw [splice_of (pre := ([] : List Value)) (mid := [.int .i64 x.kind]) (post := ([Sl.val x.data] ++ [.int .i64 x.cut] ++ [.int .i64 x.n] ++ [.int .u8 (w8 x.b)] ++ [.int .u64 (w64 x.v)] ++ [.int .u8 (w8 x.dom)] ++ arr u8v x.sum : List Value)) (by simp [GOp.enc]) (by simp [length_arr, length_arrS, Hasher.length_enc, GLog.length_enc, Player.length_enc]) (by simp [length_arr, length_arrS, Hasher.length_enc, GLog.length_enc, Player.length_enc])]
  simp [GOp.enc]
theorem GOp.data_get (x : GOp) : nth x.enc 1 = some (Sl.val x.data) := get_of (pre := ([.int .i64 x.kind] : List Value)) (post := ([.int .i64 x.cut] ++ [.int .i64 x.n] ++ [.int .u8 (w8 x.b)] ++ [.int .u64 (w64 x.v)] ++ [.int .u8 (w8 x.dom)] ++ arr u8v x.sum : List Value)) (by simp [GOp.enc]) (by simp [length_arr, length_arrS, Hasher.length_enc, GLog.length_enc, Player.length_enc])
theorem GOp.data_set (x : GOp) (y : Sl) : splice x.enc 1 ([Sl.val y]) = ({ x with data := y } : GOp).enc := by
  rw [splice_of (pre := ([.int .i64 x.kind] : List Value)) (mid := [Sl.val x.data]) (post := ([.int .i64 x.cut] ++ [.int .i64 x.n] ++ [.int .u8 (w8 x.b)] ++ [.int .u64 (w64 x.v)] ++ [.int .u8 (w8 x.dom)] ++ arr u8v x.sum : List Value)) (by simp [GOp.enc]) (by simp [length_arr, length_arrS, Hasher.length_enc, GLog.length_enc, Player.length_enc]) (by simp [length_arr, length_arrS, Hasher.length_enc, GLog.length_enc, Player.length_enc])]
  simp [GOp.enc]
theorem GOp.cut_get (x : GOp) : nth x.enc 2 = some (.int .i64 x.cut) := get_of (pre := ([.int .i64 x.kind] ++ [Sl.val x.data] : List Value)) (post := ([.int .i64 x.n] ++ [.int .u8 (w8 x.b)] ++ [.int .u64 (w64 x.v)] ++ [.int .u8 (w8 x.dom)] ++ arr u8v x.sum : List Value)) (by simp [GOp.enc]) (by simp [length_arr, length_arrS, Hasher.length_enc, GLog.length_enc, Player.length_enc])
theorem GOp.cut_set (x : GOp) (y : Int) : splice x.enc 2 ([.int .i64 y]) = ({ x with cut := y } : GOp).enc := by
  rw [splice_of (pre := ([.int .i64 x.kind] ++ [Sl.val x.data] : List Value)) (mid := [.int .i64 x.cut]) (post := ([.int .i64 x.n] ++ [.int .u8 (w8 x.b)] ++ [.int .u64 (w64 x.v)] ++ [.int .u8 (w8 x.dom)] ++ arr u8v x.sum : List Value)) (by simp [GOp.enc]) (by simp [length_arr, length_arrS, Hasher.length_enc, GLog.length_enc, Player.length_enc]) (by simp [length_arr, length_arrS, Hasher.length_enc, GLog.length_enc, Player.length_enc])]
  simp [GOp.enc]
theorem GOp.n_get (x : GOp) : nth x.enc 3 = some (.int .i64 x.n) := get_of (pre := ([.int .i64 x.kind] ++ [Sl.val x.data] ++ [.int .i64 x.cut] : List Value)) (post := ([.int .u8 (w8 x.b)] ++ [.int .u64 (w64 x.v)] ++ [.int .u8 (w8 x.dom)] ++ arr u8v x.sum : List Value)) (by simp [GOp.enc]) (by simp [length_arr, length_arrS, Hasher.length_enc, GLog.length_enc, Player.length_enc])
theorem GOp.n_set (x : GOp) (y : Int) : splice x.enc 3 ([.int .i64 y]) = ({ x with n := y } : GOp).enc := by
  rw [splice_of (pre := ([.int .i64 x.kind] ++ [Sl.val x.data] ++ [.int .i64 x.cut] : List Value)) (mid := [.int .i64 x.n]) (post := ([.int .u8 (w8 x.b)] ++ [.int .u64 (w64 x.v)] ++ [.int .u8 (w8 x.dom)] ++ arr u8v x.sum : List Value)) (by simp [GOp.enc]) (by simp [length_arr, length_arrS, Hasher.length_enc, GLog.length_enc, Player.length_enc]) (by simp [length_arr, length_arrS, Hasher.length_enc, GLog.length_enc, Player.length_enc])]
  simp [GOp.enc]
theorem GOp.b_get (x : GOp) : nth x.enc 4 = some (.int .u8 (w8 x.b)) := get_of (pre := ([.int .i64 x.kind] ++ [Sl.val x.data] ++ [.int .i64 x.cut] ++ [.int .i64 x.n] : List Value)) (post := ([.int .u64 (w64 x.v)] ++ [.int .u8 (w8 x.dom)] ++ arr u8v x.sum : List Value)) (by simp [GOp.enc]) (by simp [length_arr, length_arrS, Hasher.length_enc, GLog.length_enc, Player.length_enc])
theorem GOp.b_set (x : GOp) (y : UInt8) : splice x.enc 4 ([.int .u8 (w8 y)]) = ({ x with b := y } : GOp).enc := by
  rw [splice_of (pre := ([.int .i64 x.kind] ++ [Sl.val x.data] ++ [.int .i64 x.cut] ++ [.int .i64 x.n] : List Value)) (mid := [.int .u8 (w8 x.b)]) (post := ([.int .u64 (w64 x.v)] ++ [.int .u8 (w8 x.dom)] ++ arr u8v x.sum : List Value)) (by simp [GOp.enc]) (by simp [length_arr, length_arrS, Hasher.length_enc, GLog.length_enc, Player.length_enc]) (by simp [length_arr, length_arrS, Hasher.length_enc, GLog.length_enc, Player.length_enc])]
  simp [GOp.enc]
theorem GOp.v_get (x : GOp) : nth x.enc 5 = some (.int .u64 (w64 x.v)) := get_of (pre := ([.int .i64 x.kind] ++ [Sl.val x.data] ++ [.int .i64 x.cut] ++ [.int .i64 x.n] ++ [.int .u8 (w8 x.b)] : List Value)) (post := ([.int .u8 (w8 x.dom)] ++ arr u8v x.sum : List Value)) (by simp [GOp.enc]) (by simp [length_arr, length_arrS, Hasher.length_enc, GLog.length_enc, Player.length_enc])
theorem GOp.v_set (x : GOp) (y : UInt64) : splice x.enc 5 ([.int .u64 (w64 y)]) = ({ x with v := y } : GOp).enc := by
  rw [splice_of (pre := ([.int .i64 x.kind] ++ [Sl.val x.data] ++ [.int .i64 x.cut] ++ [.int .i64 x.n] ++ [.int .u8 (w8 x.b)] : List Value)) (mid := [.int .u64 (w64 x.v)]) (post := ([.int .u8 (w8 x.dom)] ++ arr u8v x.sum : List Value)) (by simp [GOp.enc]) (by simp [length_arr, length_arrS, Hasher.length_enc, GLog.length_enc, Player.length_enc]) (by simp [length_arr, length_arrS, Hasher.length_enc, GLog.length_enc, Player.length_enc])]
  simp [GOp.enc]
theorem GOp.dom_get (x : GOp) : nth x.enc 6 = some (.int .u8 (w8 x.dom)) := get_of (pre := ([.int .i64 x.kind] ++ [Sl.val x.data] ++ [.int .i64 x.cut] ++ [.int .i64 x.n] ++ [.int .u8 (w8 x.b)] ++ [.int .u64 (w64 x.v)] : List Value)) (post := (arr u8v x.sum : List Value)) (by simp [GOp.enc]) (by simp [length_arr, length_arrS, Hasher.length_enc, GLog.length_enc, Player.length_enc])
theorem GOp.dom_set (x : GOp) (y : UInt8) : splice x.enc 6 ([.int .u8 (w8 y)]) = ({ x with dom := y } : GOp).enc := by
  rw [splice_of (pre := ([.int .i64 x.kind] ++ [Sl.val x.data] ++ [.int .i64 x.cut] ++ [.int .i64 x.n] ++ [.int .u8 (w8 x.b)] ++ [.int .u64 (w64 x.v)] : List Value)) (mid := [.int .u8 (w8 x.dom)]) (post := (arr u8v x.sum : List Value)) (by simp [GOp.enc]) (by simp [length_arr, length_arrS, Hasher.length_enc, GLog.length_enc, Player.length_enc]) (by simp [length_arr, length_arrS, Hasher.length_enc, GLog.length_enc, Player.length_enc])]
  simp [GOp.enc]
theorem GOp.sum_get (x : GOp) : seg x.enc 7 32 = arr u8v x.sum := part_of (pre := ([.int .i64 x.kind] ++ [Sl.val x.data] ++ [.int .i64 x.cut] ++ [.int .i64 x.n] ++ [.int .u8 (w8 x.b)] ++ [.int .u64 (w64 x.v)] ++ [.int .u8 (w8 x.dom)] : List Value)) (post := ([] : List Value)) (by simp [GOp.enc]) (by simp [length_arr, length_arrS, Hasher.length_enc, GLog.length_enc, Player.length_enc]) (by simp [length_arr, length_arrS, Hasher.length_enc, GLog.length_enc, Player.length_enc])
theorem GOp.sum_set (x : GOp) (y : (Vector UInt8 32)) : splice x.enc 7 (arr u8v y) = ({ x with sum := y } : GOp).enc := by
  rw [splice_of (pre := ([.int .i64 x.kind] ++ [Sl.val x.data] ++ [.int .i64 x.cut] ++ [.int .i64 x.n] ++ [.int .u8 (w8 x.b)] ++ [.int .u64 (w64 x.v)] ++ [.int .u8 (w8 x.dom)] : List Value)) (mid := arr u8v x.sum) (post := ([] : List Value)) (by simp [GOp.enc]) (by simp [length_arr, length_arrS, Hasher.length_enc, GLog.length_enc, Player.length_enc]) (by simp [length_arr, length_arrS, Hasher.length_enc, GLog.length_enc, Player.length_enc])]
  simp [GOp.enc]
theorem GOp.sum_at (x : GOp) (i : Nat) (h : i < 32) : nth x.enc (7 + i) = some (.int .u8 (w8 x.sum[i])) := by
  exact (get_sub (GOp.sum_get x) (by simp [length_arr, length_arrS, Hasher.length_enc, GLog.length_enc, Player.length_enc]; omega)).trans (arr_at _ _ h)
theorem GOp.sum_put (x : GOp) (i : Nat) (y : UInt8) (h : i < 32) : splice x.enc (7 + i) [.int .u8 (w8 y)] = ({ x with sum := x.sum.set i y h } : GOp).enc := by
  rw [splice_sub (GOp.sum_get x) (by simp [GOp.length_enc]) (by simp; omega)]
  rw [show ([.int .u8 (w8 y)] : List Value) = [u8v y] from rfl, arr_put _ _ _ h, GOp.sum_set]

structure Answer where
  code : Int
  sum : (Vector UInt8 32)
  len : UInt64
  mark : Int
  noted : Int
  collided : Bool
def Answer.zero : Answer := ⟨0, (Vector.replicate 32 0), 0, 0, 0, false⟩
def Answer.enc (x : Answer) : List Value :=
  [.int .i64 x.code] ++ (arr u8v x.sum ++ ([.int .u64 (w64 x.len)] ++ ([.int .i64 x.mark] ++ ([.int .i64 x.noted] ++ ([.bool x.collided])))))
theorem Answer.length_enc (x : Answer) : x.enc.length = 37 := by simp [Answer.enc, length_arr, length_arrS, Hasher.length_enc, GLog.length_enc, Player.length_enc, GOp.length_enc]
theorem Answer.one_enc (x : Answer) : x.enc.all (fun v => v.oneCell') = true := by simp only [Answer.enc, List.all_append, List.all_cons, List.all_nil, oneC_int, oneC_bool, oneC_string, oneC_pointer, oneC_slice, Bool.and_true, Bool.true_and, implies_true, one_arr_u8, one_arr_u32, one_arr_u64, one_arr_i64, one_arr_bool, one_arr_str, one_arr_ptr, one_arr_sl, one_arrS, one_u8, one_u32, one_u64, one_i64, one_bool, one_str, one_sl, one_ptr, Hasher.one_enc, GLog.one_enc, Player.one_enc, GOp.one_enc]
theorem Answer.ok_enc (x : Answer) : okCells 37 x.enc = true := ok_mk x.length_enc x.one_enc
theorem Answer.all_get (x : Answer) : seg x.enc 0 37 = x.enc := seg_all _ _ x.length_enc
theorem Answer.all_set (x y : Answer) : splice x.enc 0 y.enc = y.enc := splice_all _ _ (by rw [x.length_enc, y.length_enc])
theorem Answer.code_get (x : Answer) : nth x.enc 0 = some (.int .i64 x.code) := get_of (pre := ([] : List Value)) (post := (arr u8v x.sum ++ [.int .u64 (w64 x.len)] ++ [.int .i64 x.mark] ++ [.int .i64 x.noted] ++ [.bool x.collided] : List Value)) (by simp [Answer.enc]) (by simp [length_arr, length_arrS, Hasher.length_enc, GLog.length_enc, Player.length_enc, GOp.length_enc])
theorem Answer.code_set (x : Answer) (y : Int) : splice x.enc 0 ([.int .i64 y]) = ({ x with code := y } : Answer).enc := by
  rw [splice_of (pre := ([] : List Value)) (mid := [.int .i64 x.code]) (post := (arr u8v x.sum ++ [.int .u64 (w64 x.len)] ++ [.int .i64 x.mark] ++ [.int .i64 x.noted] ++ [.bool x.collided] : List Value)) (by simp [Answer.enc]) (by simp [length_arr, length_arrS, Hasher.length_enc, GLog.length_enc, Player.length_enc, GOp.length_enc]) (by simp [length_arr, length_arrS, Hasher.length_enc, GLog.length_enc, Player.length_enc, GOp.length_enc])]
  simp [Answer.enc]
theorem Answer.sum_get (x : Answer) : seg x.enc 1 32 = arr u8v x.sum := part_of (pre := ([.int .i64 x.code] : List Value)) (post := ([.int .u64 (w64 x.len)] ++ [.int .i64 x.mark] ++ [.int .i64 x.noted] ++ [.bool x.collided] : List Value)) (by simp [Answer.enc]) (by simp [length_arr, length_arrS, Hasher.length_enc, GLog.length_enc, Player.length_enc, GOp.length_enc]) (by simp [length_arr, length_arrS, Hasher.length_enc, GLog.length_enc, Player.length_enc, GOp.length_enc])
theorem Answer.sum_set (x : Answer) (y : (Vector UInt8 32)) : splice x.enc 1 (arr u8v y) = ({ x with sum := y } : Answer).enc := by
  rw [splice_of (pre := ([.int .i64 x.code] : List Value)) (mid := arr u8v x.sum) (post := ([.int .u64 (w64 x.len)] ++ [.int .i64 x.mark] ++ [.int .i64 x.noted] ++ [.bool x.collided] : List Value)) (by simp [Answer.enc]) (by simp [length_arr, length_arrS, Hasher.length_enc, GLog.length_enc, Player.length_enc, GOp.length_enc]) (by simp [length_arr, length_arrS, Hasher.length_enc, GLog.length_enc, Player.length_enc, GOp.length_enc])]
  simp [Answer.enc]
theorem Answer.sum_at (x : Answer) (i : Nat) (h : i < 32) : nth x.enc (1 + i) = some (.int .u8 (w8 x.sum[i])) := by
  exact (get_sub (Answer.sum_get x) (by simp [length_arr, length_arrS, Hasher.length_enc, GLog.length_enc, Player.length_enc, GOp.length_enc]; omega)).trans (arr_at _ _ h)
theorem Answer.sum_put (x : Answer) (i : Nat) (y : UInt8) (h : i < 32) : splice x.enc (1 + i) [.int .u8 (w8 y)] = ({ x with sum := x.sum.set i y h } : Answer).enc := by
  rw [splice_sub (Answer.sum_get x) (by simp [Answer.length_enc]) (by simp; omega)]
  rw [show ([.int .u8 (w8 y)] : List Value) = [u8v y] from rfl, arr_put _ _ _ h, Answer.sum_set]
theorem Answer.len_get (x : Answer) : nth x.enc 33 = some (.int .u64 (w64 x.len)) := get_of (pre := ([.int .i64 x.code] ++ arr u8v x.sum : List Value)) (post := ([.int .i64 x.mark] ++ [.int .i64 x.noted] ++ [.bool x.collided] : List Value)) (by simp [Answer.enc]) (by simp [length_arr, length_arrS, Hasher.length_enc, GLog.length_enc, Player.length_enc, GOp.length_enc])
theorem Answer.len_set (x : Answer) (y : UInt64) : splice x.enc 33 ([.int .u64 (w64 y)]) = ({ x with len := y } : Answer).enc := by
  rw [splice_of (pre := ([.int .i64 x.code] ++ arr u8v x.sum : List Value)) (mid := [.int .u64 (w64 x.len)]) (post := ([.int .i64 x.mark] ++ [.int .i64 x.noted] ++ [.bool x.collided] : List Value)) (by simp [Answer.enc]) (by simp [length_arr, length_arrS, Hasher.length_enc, GLog.length_enc, Player.length_enc, GOp.length_enc]) (by simp [length_arr, length_arrS, Hasher.length_enc, GLog.length_enc, Player.length_enc, GOp.length_enc])]
  simp [Answer.enc]
theorem Answer.mark_get (x : Answer) : nth x.enc 34 = some (.int .i64 x.mark) := get_of (pre := ([.int .i64 x.code] ++ arr u8v x.sum ++ [.int .u64 (w64 x.len)] : List Value)) (post := ([.int .i64 x.noted] ++ [.bool x.collided] : List Value)) (by simp [Answer.enc]) (by simp [length_arr, length_arrS, Hasher.length_enc, GLog.length_enc, Player.length_enc, GOp.length_enc])
theorem Answer.mark_set (x : Answer) (y : Int) : splice x.enc 34 ([.int .i64 y]) = ({ x with mark := y } : Answer).enc := by
  rw [splice_of (pre := ([.int .i64 x.code] ++ arr u8v x.sum ++ [.int .u64 (w64 x.len)] : List Value)) (mid := [.int .i64 x.mark]) (post := ([.int .i64 x.noted] ++ [.bool x.collided] : List Value)) (by simp [Answer.enc]) (by simp [length_arr, length_arrS, Hasher.length_enc, GLog.length_enc, Player.length_enc, GOp.length_enc]) (by simp [length_arr, length_arrS, Hasher.length_enc, GLog.length_enc, Player.length_enc, GOp.length_enc])]
  simp [Answer.enc]
theorem Answer.noted_get (x : Answer) : nth x.enc 35 = some (.int .i64 x.noted) := get_of (pre := ([.int .i64 x.code] ++ arr u8v x.sum ++ [.int .u64 (w64 x.len)] ++ [.int .i64 x.mark] : List Value)) (post := ([.bool x.collided] : List Value)) (by simp [Answer.enc]) (by simp [length_arr, length_arrS, Hasher.length_enc, GLog.length_enc, Player.length_enc, GOp.length_enc])
theorem Answer.noted_set (x : Answer) (y : Int) : splice x.enc 35 ([.int .i64 y]) = ({ x with noted := y } : Answer).enc := by
  rw [splice_of (pre := ([.int .i64 x.code] ++ arr u8v x.sum ++ [.int .u64 (w64 x.len)] ++ [.int .i64 x.mark] : List Value)) (mid := [.int .i64 x.noted]) (post := ([.bool x.collided] : List Value)) (by simp [Answer.enc]) (by simp [length_arr, length_arrS, Hasher.length_enc, GLog.length_enc, Player.length_enc, GOp.length_enc]) (by simp [length_arr, length_arrS, Hasher.length_enc, GLog.length_enc, Player.length_enc, GOp.length_enc])]
  simp [Answer.enc]
theorem Answer.collided_get (x : Answer) : nth x.enc 36 = some (.bool x.collided) := get_of (pre := ([.int .i64 x.code] ++ arr u8v x.sum ++ [.int .u64 (w64 x.len)] ++ [.int .i64 x.mark] ++ [.int .i64 x.noted] : List Value)) (post := ([] : List Value)) (by simp [Answer.enc]) (by simp [length_arr, length_arrS, Hasher.length_enc, GLog.length_enc, Player.length_enc, GOp.length_enc])
theorem Answer.collided_set (x : Answer) (y : Bool) : splice x.enc 36 ([.bool y]) = ({ x with collided := y } : Answer).enc := by
  rw [splice_of (pre := ([.int .i64 x.code] ++ arr u8v x.sum ++ [.int .u64 (w64 x.len)] ++ [.int .i64 x.mark] ++ [.int .i64 x.noted] : List Value)) (mid := [.bool x.collided]) (post := ([] : List Value)) (by simp [Answer.enc]) (by simp [length_arr, length_arrS, Hasher.length_enc, GLog.length_enc, Player.length_enc, GOp.length_enc]) (by simp [length_arr, length_arrS, Hasher.length_enc, GLog.length_enc, Player.length_enc, GOp.length_enc])]
  simp [Answer.enc]

structure GState where
  hand : Sl
  aside : Sl
  prev : (Vector UInt8 32)
  last : (Vector UInt8 32)
  inputs : Sl
  sums : Sl
  collided : Bool
  older : Int
  younger : Int
def GState.zero : GState := ⟨⟨none, 0, 0⟩, ⟨none, 0, 0⟩, (Vector.replicate 32 0), (Vector.replicate 32 0), ⟨none, 0, 0⟩, ⟨none, 0, 0⟩, false, 0, 0⟩
def GState.enc (x : GState) : List Value :=
  [Sl.val x.hand] ++ ([Sl.val x.aside] ++ (arr u8v x.prev ++ (arr u8v x.last ++ ([Sl.val x.inputs] ++ ([Sl.val x.sums] ++ ([.bool x.collided] ++ ([.int .i64 x.older] ++ ([.int .i64 x.younger]))))))))
theorem GState.length_enc (x : GState) : x.enc.length = 71 := by simp [GState.enc, length_arr, length_arrS, Hasher.length_enc, GLog.length_enc, Player.length_enc, GOp.length_enc, Answer.length_enc]
theorem GState.one_enc (x : GState) : x.enc.all (fun v => v.oneCell') = true := by simp only [GState.enc, List.all_append, List.all_cons, List.all_nil, oneC_int, oneC_bool, oneC_string, oneC_pointer, oneC_slice, Bool.and_true, Bool.true_and, implies_true, one_arr_u8, one_arr_u32, one_arr_u64, one_arr_i64, one_arr_bool, one_arr_str, one_arr_ptr, one_arr_sl, one_arrS, one_u8, one_u32, one_u64, one_i64, one_bool, one_str, one_sl, one_ptr, Hasher.one_enc, GLog.one_enc, Player.one_enc, GOp.one_enc, Answer.one_enc]
theorem GState.ok_enc (x : GState) : okCells 71 x.enc = true := ok_mk x.length_enc x.one_enc
theorem GState.all_get (x : GState) : seg x.enc 0 71 = x.enc := seg_all _ _ x.length_enc
theorem GState.all_set (x y : GState) : splice x.enc 0 y.enc = y.enc := splice_all _ _ (by rw [x.length_enc, y.length_enc])
theorem GState.hand_get (x : GState) : nth x.enc 0 = some (Sl.val x.hand) := get_of (pre := ([] : List Value)) (post := ([Sl.val x.aside] ++ arr u8v x.prev ++ arr u8v x.last ++ [Sl.val x.inputs] ++ [Sl.val x.sums] ++ [.bool x.collided] ++ [.int .i64 x.older] ++ [.int .i64 x.younger] : List Value)) (by simp [GState.enc]) (by simp [length_arr, length_arrS, Hasher.length_enc, GLog.length_enc, Player.length_enc, GOp.length_enc, Answer.length_enc])
theorem GState.hand_set (x : GState) (y : Sl) : splice x.enc 0 ([Sl.val y]) = ({ x with hand := y } : GState).enc := by
  rw [splice_of (pre := ([] : List Value)) (mid := [Sl.val x.hand]) (post := ([Sl.val x.aside] ++ arr u8v x.prev ++ arr u8v x.last ++ [Sl.val x.inputs] ++ [Sl.val x.sums] ++ [.bool x.collided] ++ [.int .i64 x.older] ++ [.int .i64 x.younger] : List Value)) (by simp [GState.enc]) (by simp [length_arr, length_arrS, Hasher.length_enc, GLog.length_enc, Player.length_enc, GOp.length_enc, Answer.length_enc]) (by simp [length_arr, length_arrS, Hasher.length_enc, GLog.length_enc, Player.length_enc, GOp.length_enc, Answer.length_enc])]
  simp [GState.enc]
theorem GState.aside_get (x : GState) : nth x.enc 1 = some (Sl.val x.aside) := get_of (pre := ([Sl.val x.hand] : List Value)) (post := (arr u8v x.prev ++ arr u8v x.last ++ [Sl.val x.inputs] ++ [Sl.val x.sums] ++ [.bool x.collided] ++ [.int .i64 x.older] ++ [.int .i64 x.younger] : List Value)) (by simp [GState.enc]) (by simp [length_arr, length_arrS, Hasher.length_enc, GLog.length_enc, Player.length_enc, GOp.length_enc, Answer.length_enc])
theorem GState.aside_set (x : GState) (y : Sl) : splice x.enc 1 ([Sl.val y]) = ({ x with aside := y } : GState).enc := by
  rw [splice_of (pre := ([Sl.val x.hand] : List Value)) (mid := [Sl.val x.aside]) (post := (arr u8v x.prev ++ arr u8v x.last ++ [Sl.val x.inputs] ++ [Sl.val x.sums] ++ [.bool x.collided] ++ [.int .i64 x.older] ++ [.int .i64 x.younger] : List Value)) (by simp [GState.enc]) (by simp [length_arr, length_arrS, Hasher.length_enc, GLog.length_enc, Player.length_enc, GOp.length_enc, Answer.length_enc]) (by simp [length_arr, length_arrS, Hasher.length_enc, GLog.length_enc, Player.length_enc, GOp.length_enc, Answer.length_enc])]
  simp [GState.enc]
theorem GState.prev_get (x : GState) : seg x.enc 2 32 = arr u8v x.prev := part_of (pre := ([Sl.val x.hand] ++ [Sl.val x.aside] : List Value)) (post := (arr u8v x.last ++ [Sl.val x.inputs] ++ [Sl.val x.sums] ++ [.bool x.collided] ++ [.int .i64 x.older] ++ [.int .i64 x.younger] : List Value)) (by simp [GState.enc]) (by simp [length_arr, length_arrS, Hasher.length_enc, GLog.length_enc, Player.length_enc, GOp.length_enc, Answer.length_enc]) (by simp [length_arr, length_arrS, Hasher.length_enc, GLog.length_enc, Player.length_enc, GOp.length_enc, Answer.length_enc])
theorem GState.prev_set (x : GState) (y : (Vector UInt8 32)) : splice x.enc 2 (arr u8v y) = ({ x with prev := y } : GState).enc := by
  rw [splice_of (pre := ([Sl.val x.hand] ++ [Sl.val x.aside] : List Value)) (mid := arr u8v x.prev) (post := (arr u8v x.last ++ [Sl.val x.inputs] ++ [Sl.val x.sums] ++ [.bool x.collided] ++ [.int .i64 x.older] ++ [.int .i64 x.younger] : List Value)) (by simp [GState.enc]) (by simp [length_arr, length_arrS, Hasher.length_enc, GLog.length_enc, Player.length_enc, GOp.length_enc, Answer.length_enc]) (by simp [length_arr, length_arrS, Hasher.length_enc, GLog.length_enc, Player.length_enc, GOp.length_enc, Answer.length_enc])]
  simp [GState.enc]
theorem GState.prev_at (x : GState) (i : Nat) (h : i < 32) : nth x.enc (2 + i) = some (.int .u8 (w8 x.prev[i])) := by
  exact (get_sub (GState.prev_get x) (by simp [length_arr, length_arrS, Hasher.length_enc, GLog.length_enc, Player.length_enc, GOp.length_enc, Answer.length_enc]; omega)).trans (arr_at _ _ h)
theorem GState.prev_put (x : GState) (i : Nat) (y : UInt8) (h : i < 32) : splice x.enc (2 + i) [.int .u8 (w8 y)] = ({ x with prev := x.prev.set i y h } : GState).enc := by
  rw [splice_sub (GState.prev_get x) (by simp [GState.length_enc]) (by simp; omega)]
  rw [show ([.int .u8 (w8 y)] : List Value) = [u8v y] from rfl, arr_put _ _ _ h, GState.prev_set]
theorem GState.last_get (x : GState) : seg x.enc 34 32 = arr u8v x.last := part_of (pre := ([Sl.val x.hand] ++ [Sl.val x.aside] ++ arr u8v x.prev : List Value)) (post := ([Sl.val x.inputs] ++ [Sl.val x.sums] ++ [.bool x.collided] ++ [.int .i64 x.older] ++ [.int .i64 x.younger] : List Value)) (by simp [GState.enc]) (by simp [length_arr, length_arrS, Hasher.length_enc, GLog.length_enc, Player.length_enc, GOp.length_enc, Answer.length_enc]) (by simp [length_arr, length_arrS, Hasher.length_enc, GLog.length_enc, Player.length_enc, GOp.length_enc, Answer.length_enc])
theorem GState.last_set (x : GState) (y : (Vector UInt8 32)) : splice x.enc 34 (arr u8v y) = ({ x with last := y } : GState).enc := by
  rw [splice_of (pre := ([Sl.val x.hand] ++ [Sl.val x.aside] ++ arr u8v x.prev : List Value)) (mid := arr u8v x.last) (post := ([Sl.val x.inputs] ++ [Sl.val x.sums] ++ [.bool x.collided] ++ [.int .i64 x.older] ++ [.int .i64 x.younger] : List Value)) (by simp [GState.enc]) (by simp [length_arr, length_arrS, Hasher.length_enc, GLog.length_enc, Player.length_enc, GOp.length_enc, Answer.length_enc]) (by simp [length_arr, length_arrS, Hasher.length_enc, GLog.length_enc, Player.length_enc, GOp.length_enc, Answer.length_enc])]
  simp [GState.enc]
theorem GState.last_at (x : GState) (i : Nat) (h : i < 32) : nth x.enc (34 + i) = some (.int .u8 (w8 x.last[i])) := by
  exact (get_sub (GState.last_get x) (by simp [length_arr, length_arrS, Hasher.length_enc, GLog.length_enc, Player.length_enc, GOp.length_enc, Answer.length_enc]; omega)).trans (arr_at _ _ h)
theorem GState.last_put (x : GState) (i : Nat) (y : UInt8) (h : i < 32) : splice x.enc (34 + i) [.int .u8 (w8 y)] = ({ x with last := x.last.set i y h } : GState).enc := by
  rw [splice_sub (GState.last_get x) (by simp [GState.length_enc]) (by simp; omega)]
  rw [show ([.int .u8 (w8 y)] : List Value) = [u8v y] from rfl, arr_put _ _ _ h, GState.last_set]
theorem GState.inputs_get (x : GState) : nth x.enc 66 = some (Sl.val x.inputs) := get_of (pre := ([Sl.val x.hand] ++ [Sl.val x.aside] ++ arr u8v x.prev ++ arr u8v x.last : List Value)) (post := ([Sl.val x.sums] ++ [.bool x.collided] ++ [.int .i64 x.older] ++ [.int .i64 x.younger] : List Value)) (by simp [GState.enc]) (by simp [length_arr, length_arrS, Hasher.length_enc, GLog.length_enc, Player.length_enc, GOp.length_enc, Answer.length_enc])
theorem GState.inputs_set (x : GState) (y : Sl) : splice x.enc 66 ([Sl.val y]) = ({ x with inputs := y } : GState).enc := by
  rw [splice_of (pre := ([Sl.val x.hand] ++ [Sl.val x.aside] ++ arr u8v x.prev ++ arr u8v x.last : List Value)) (mid := [Sl.val x.inputs]) (post := ([Sl.val x.sums] ++ [.bool x.collided] ++ [.int .i64 x.older] ++ [.int .i64 x.younger] : List Value)) (by simp [GState.enc]) (by simp [length_arr, length_arrS, Hasher.length_enc, GLog.length_enc, Player.length_enc, GOp.length_enc, Answer.length_enc]) (by simp [length_arr, length_arrS, Hasher.length_enc, GLog.length_enc, Player.length_enc, GOp.length_enc, Answer.length_enc])]
  simp [GState.enc]
theorem GState.sums_get (x : GState) : nth x.enc 67 = some (Sl.val x.sums) := get_of (pre := ([Sl.val x.hand] ++ [Sl.val x.aside] ++ arr u8v x.prev ++ arr u8v x.last ++ [Sl.val x.inputs] : List Value)) (post := ([.bool x.collided] ++ [.int .i64 x.older] ++ [.int .i64 x.younger] : List Value)) (by simp [GState.enc]) (by simp [length_arr, length_arrS, Hasher.length_enc, GLog.length_enc, Player.length_enc, GOp.length_enc, Answer.length_enc])
theorem GState.sums_set (x : GState) (y : Sl) : splice x.enc 67 ([Sl.val y]) = ({ x with sums := y } : GState).enc := by
  rw [splice_of (pre := ([Sl.val x.hand] ++ [Sl.val x.aside] ++ arr u8v x.prev ++ arr u8v x.last ++ [Sl.val x.inputs] : List Value)) (mid := [Sl.val x.sums]) (post := ([.bool x.collided] ++ [.int .i64 x.older] ++ [.int .i64 x.younger] : List Value)) (by simp [GState.enc]) (by simp [length_arr, length_arrS, Hasher.length_enc, GLog.length_enc, Player.length_enc, GOp.length_enc, Answer.length_enc]) (by simp [length_arr, length_arrS, Hasher.length_enc, GLog.length_enc, Player.length_enc, GOp.length_enc, Answer.length_enc])]
  simp [GState.enc]
theorem GState.collided_get (x : GState) : nth x.enc 68 = some (.bool x.collided) := get_of (pre := ([Sl.val x.hand] ++ [Sl.val x.aside] ++ arr u8v x.prev ++ arr u8v x.last ++ [Sl.val x.inputs] ++ [Sl.val x.sums] : List Value)) (post := ([.int .i64 x.older] ++ [.int .i64 x.younger] : List Value)) (by simp [GState.enc]) (by simp [length_arr, length_arrS, Hasher.length_enc, GLog.length_enc, Player.length_enc, GOp.length_enc, Answer.length_enc])
theorem GState.collided_set (x : GState) (y : Bool) : splice x.enc 68 ([.bool y]) = ({ x with collided := y } : GState).enc := by
  rw [splice_of (pre := ([Sl.val x.hand] ++ [Sl.val x.aside] ++ arr u8v x.prev ++ arr u8v x.last ++ [Sl.val x.inputs] ++ [Sl.val x.sums] : List Value)) (mid := [.bool x.collided]) (post := ([.int .i64 x.older] ++ [.int .i64 x.younger] : List Value)) (by simp [GState.enc]) (by simp [length_arr, length_arrS, Hasher.length_enc, GLog.length_enc, Player.length_enc, GOp.length_enc, Answer.length_enc]) (by simp [length_arr, length_arrS, Hasher.length_enc, GLog.length_enc, Player.length_enc, GOp.length_enc, Answer.length_enc])]
  simp [GState.enc]
theorem GState.older_get (x : GState) : nth x.enc 69 = some (.int .i64 x.older) := get_of (pre := ([Sl.val x.hand] ++ [Sl.val x.aside] ++ arr u8v x.prev ++ arr u8v x.last ++ [Sl.val x.inputs] ++ [Sl.val x.sums] ++ [.bool x.collided] : List Value)) (post := ([.int .i64 x.younger] : List Value)) (by simp [GState.enc]) (by simp [length_arr, length_arrS, Hasher.length_enc, GLog.length_enc, Player.length_enc, GOp.length_enc, Answer.length_enc])
theorem GState.older_set (x : GState) (y : Int) : splice x.enc 69 ([.int .i64 y]) = ({ x with older := y } : GState).enc := by
  rw [splice_of (pre := ([Sl.val x.hand] ++ [Sl.val x.aside] ++ arr u8v x.prev ++ arr u8v x.last ++ [Sl.val x.inputs] ++ [Sl.val x.sums] ++ [.bool x.collided] : List Value)) (mid := [.int .i64 x.older]) (post := ([.int .i64 x.younger] : List Value)) (by simp [GState.enc]) (by simp [length_arr, length_arrS, Hasher.length_enc, GLog.length_enc, Player.length_enc, GOp.length_enc, Answer.length_enc]) (by simp [length_arr, length_arrS, Hasher.length_enc, GLog.length_enc, Player.length_enc, GOp.length_enc, Answer.length_enc])]
  simp [GState.enc]
theorem GState.younger_get (x : GState) : nth x.enc 70 = some (.int .i64 x.younger) := get_of (pre := ([Sl.val x.hand] ++ [Sl.val x.aside] ++ arr u8v x.prev ++ arr u8v x.last ++ [Sl.val x.inputs] ++ [Sl.val x.sums] ++ [.bool x.collided] ++ [.int .i64 x.older] : List Value)) (post := ([] : List Value)) (by simp [GState.enc]) (by simp [length_arr, length_arrS, Hasher.length_enc, GLog.length_enc, Player.length_enc, GOp.length_enc, Answer.length_enc])
theorem GState.younger_set (x : GState) (y : Int) : splice x.enc 70 ([.int .i64 y]) = ({ x with younger := y } : GState).enc := by
  rw [splice_of (pre := ([Sl.val x.hand] ++ [Sl.val x.aside] ++ arr u8v x.prev ++ arr u8v x.last ++ [Sl.val x.inputs] ++ [Sl.val x.sums] ++ [.bool x.collided] ++ [.int .i64 x.older] : List Value)) (mid := [.int .i64 x.younger]) (post := ([] : List Value)) (by simp [GState.enc]) (by simp [length_arr, length_arrS, Hasher.length_enc, GLog.length_enc, Player.length_enc, GOp.length_enc, Answer.length_enc]) (by simp [length_arr, length_arrS, Hasher.length_enc, GLog.length_enc, Player.length_enc, GOp.length_enc, Answer.length_enc])]
  simp [GState.enc]

structure Noted where
  input : Sl
  sum : (Vector UInt8 32)
def Noted.zero : Noted := ⟨⟨none, 0, 0⟩, (Vector.replicate 32 0)⟩
def Noted.enc (x : Noted) : List Value :=
  [Sl.val x.input] ++ (arr u8v x.sum)
theorem Noted.length_enc (x : Noted) : x.enc.length = 33 := by simp [Noted.enc, length_arr, length_arrS, Hasher.length_enc, GLog.length_enc, Player.length_enc, GOp.length_enc, Answer.length_enc, GState.length_enc]
theorem Noted.one_enc (x : Noted) : x.enc.all (fun v => v.oneCell') = true := by simp only [Noted.enc, List.all_append, List.all_cons, List.all_nil, oneC_int, oneC_bool, oneC_string, oneC_pointer, oneC_slice, Bool.and_true, Bool.true_and, implies_true, one_arr_u8, one_arr_u32, one_arr_u64, one_arr_i64, one_arr_bool, one_arr_str, one_arr_ptr, one_arr_sl, one_arrS, one_u8, one_u32, one_u64, one_i64, one_bool, one_str, one_sl, one_ptr, Hasher.one_enc, GLog.one_enc, Player.one_enc, GOp.one_enc, Answer.one_enc, GState.one_enc]
theorem Noted.ok_enc (x : Noted) : okCells 33 x.enc = true := ok_mk x.length_enc x.one_enc
theorem Noted.all_get (x : Noted) : seg x.enc 0 33 = x.enc := seg_all _ _ x.length_enc
theorem Noted.all_set (x y : Noted) : splice x.enc 0 y.enc = y.enc := splice_all _ _ (by rw [x.length_enc, y.length_enc])
theorem Noted.input_get (x : Noted) : nth x.enc 0 = some (Sl.val x.input) := get_of (pre := ([] : List Value)) (post := (arr u8v x.sum : List Value)) (by simp [Noted.enc]) (by simp [length_arr, length_arrS, Hasher.length_enc, GLog.length_enc, Player.length_enc, GOp.length_enc, Answer.length_enc, GState.length_enc])
theorem Noted.input_set (x : Noted) (y : Sl) : splice x.enc 0 ([Sl.val y]) = ({ x with input := y } : Noted).enc := by
  rw [splice_of (pre := ([] : List Value)) (mid := [Sl.val x.input]) (post := (arr u8v x.sum : List Value)) (by simp [Noted.enc]) (by simp [length_arr, length_arrS, Hasher.length_enc, GLog.length_enc, Player.length_enc, GOp.length_enc, Answer.length_enc, GState.length_enc]) (by simp [length_arr, length_arrS, Hasher.length_enc, GLog.length_enc, Player.length_enc, GOp.length_enc, Answer.length_enc, GState.length_enc])]
  simp [Noted.enc]
theorem Noted.sum_get (x : Noted) : seg x.enc 1 32 = arr u8v x.sum := part_of (pre := ([Sl.val x.input] : List Value)) (post := ([] : List Value)) (by simp [Noted.enc]) (by simp [length_arr, length_arrS, Hasher.length_enc, GLog.length_enc, Player.length_enc, GOp.length_enc, Answer.length_enc, GState.length_enc]) (by simp [length_arr, length_arrS, Hasher.length_enc, GLog.length_enc, Player.length_enc, GOp.length_enc, Answer.length_enc, GState.length_enc])
theorem Noted.sum_set (x : Noted) (y : (Vector UInt8 32)) : splice x.enc 1 (arr u8v y) = ({ x with sum := y } : Noted).enc := by
  rw [splice_of (pre := ([Sl.val x.input] : List Value)) (mid := arr u8v x.sum) (post := ([] : List Value)) (by simp [Noted.enc]) (by simp [length_arr, length_arrS, Hasher.length_enc, GLog.length_enc, Player.length_enc, GOp.length_enc, Answer.length_enc, GState.length_enc]) (by simp [length_arr, length_arrS, Hasher.length_enc, GLog.length_enc, Player.length_enc, GOp.length_enc, Answer.length_enc, GState.length_enc])]
  simp [Noted.enc]
theorem Noted.sum_at (x : Noted) (i : Nat) (h : i < 32) : nth x.enc (1 + i) = some (.int .u8 (w8 x.sum[i])) := by
  exact (get_sub (Noted.sum_get x) (by simp [length_arr, length_arrS, Hasher.length_enc, GLog.length_enc, Player.length_enc, GOp.length_enc, Answer.length_enc, GState.length_enc]; omega)).trans (arr_at _ _ h)
theorem Noted.sum_put (x : Noted) (i : Nat) (y : UInt8) (h : i < 32) : splice x.enc (1 + i) [.int .u8 (w8 y)] = ({ x with sum := x.sum.set i y h } : Noted).enc := by
  rw [splice_sub (Noted.sum_get x) (by simp [Noted.length_enc]) (by simp; omega)]
  rw [show ([.int .u8 (w8 y)] : List Value) = [u8v y] from rfl, arr_put _ _ _ h, Noted.sum_set]

/-! ### the program's own loads, stores, new variables -/
theorem Try.ld24 (w : World) (b o : Nat) : (loadOp 24 (.pointer (some ⟨b, o, none⟩))).run Try.prog w = lookOr (cellAt (blk w b) o) w (rawLoad Try.prog 24 ⟨b, o, none⟩ w) := load_one Try.underlying24 rfl w b o
theorem Try.st24 (w : World) (b o : Nat) (v : Value) : (storeOp 24 (.pointer (some ⟨b, o, none⟩)) v).run Try.prog w = putOr (storeIn w (blk w b) b o 1 v) (rawStore Try.prog 24 ⟨b, o, none⟩ v w) := store_any (by kernel_rfl) w b o v
theorem Try.ld5 (w : World) (b o : Nat) : (loadOp 5 (.pointer (some ⟨b, o, none⟩))).run Try.prog w = lookOr (cellAt (blk w b) o) w (rawLoad Try.prog 5 ⟨b, o, none⟩ w) := load_one Try.underlying5 rfl w b o
theorem Try.st5 (w : World) (b o : Nat) (v : Value) : (storeOp 5 (.pointer (some ⟨b, o, none⟩)) v).run Try.prog w = putOr (storeIn w (blk w b) b o 1 v) (rawStore Try.prog 5 ⟨b, o, none⟩ v w) := store_any (by kernel_rfl) w b o v
theorem Try.ld3 (w : World) (b o : Nat) : (loadOp 3 (.pointer (some ⟨b, o, none⟩))).run Try.prog w = lookOr (cellAt (blk w b) o) w (rawLoad Try.prog 3 ⟨b, o, none⟩ w) := load_one Try.underlying3 rfl w b o
theorem Try.st3 (w : World) (b o : Nat) (v : Value) : (storeOp 3 (.pointer (some ⟨b, o, none⟩)) v).run Try.prog w = putOr (storeIn w (blk w b) b o 1 v) (rawStore Try.prog 3 ⟨b, o, none⟩ v w) := store_any (by kernel_rfl) w b o v
theorem Try.ld27 (w : World) (b o : Nat) : (loadOp 27 (.pointer (some ⟨b, o, none⟩))).run Try.prog w = lookOr (cellAt (blk w b) o) w (rawLoad Try.prog 27 ⟨b, o, none⟩ w) := load_one Try.underlying27 rfl w b o
theorem Try.st27 (w : World) (b o : Nat) (v : Value) : (storeOp 27 (.pointer (some ⟨b, o, none⟩)) v).run Try.prog w = putOr (storeIn w (blk w b) b o 1 v) (rawStore Try.prog 27 ⟨b, o, none⟩ v w) := store_any (by kernel_rfl) w b o v
theorem Try.ld32 (w : World) (b o : Nat) : (loadOp 32 (.pointer (some ⟨b, o, none⟩))).run Try.prog w = lookOr (cellAt (blk w b) o) w (rawLoad Try.prog 32 ⟨b, o, none⟩ w) := load_one Try.underlying32 rfl w b o
theorem Try.st32 (w : World) (b o : Nat) (v : Value) : (storeOp 32 (.pointer (some ⟨b, o, none⟩)) v).run Try.prog w = putOr (storeIn w (blk w b) b o 1 v) (rawStore Try.prog 32 ⟨b, o, none⟩ v w) := store_any (by kernel_rfl) w b o v
theorem Try.ld33 (w : World) (b o : Nat) : (loadOp 33 (.pointer (some ⟨b, o, none⟩))).run Try.prog w = lookOr (cellAt (blk w b) o) w (rawLoad Try.prog 33 ⟨b, o, none⟩ w) := load_one Try.underlying33 rfl w b o
theorem Try.st33 (w : World) (b o : Nat) (v : Value) : (storeOp 33 (.pointer (some ⟨b, o, none⟩)) v).run Try.prog w = putOr (storeIn w (blk w b) b o 1 v) (rawStore Try.prog 33 ⟨b, o, none⟩ v w) := store_any (by kernel_rfl) w b o v
theorem Try.ld4 (w : World) (b o : Nat) : (loadOp 4 (.pointer (some ⟨b, o, none⟩))).run Try.prog w = lookOr (cellAt (blk w b) o) w (rawLoad Try.prog 4 ⟨b, o, none⟩ w) := load_one Try.underlying4 rfl w b o
theorem Try.st4 (w : World) (b o : Nat) (v : Value) : (storeOp 4 (.pointer (some ⟨b, o, none⟩)) v).run Try.prog w = putOr (storeIn w (blk w b) b o 1 v) (rawStore Try.prog 4 ⟨b, o, none⟩ v w) := store_any (by kernel_rfl) w b o v
theorem Try.ld41 (w : World) (b o : Nat) : (loadOp 41 (.pointer (some ⟨b, o, none⟩))).run Try.prog w = lookOr (cellAt (blk w b) o) w (rawLoad Try.prog 41 ⟨b, o, none⟩ w) := load_one Try.underlying41 rfl w b o
theorem Try.st41 (w : World) (b o : Nat) (v : Value) : (storeOp 41 (.pointer (some ⟨b, o, none⟩)) v).run Try.prog w = putOr (storeIn w (blk w b) b o 1 v) (rawStore Try.prog 41 ⟨b, o, none⟩ v w) := store_any (by kernel_rfl) w b o v
theorem Try.ld40 (w : World) (b o : Nat) : (loadOp 40 (.pointer (some ⟨b, o, none⟩))).run Try.prog w = lookOr (cellAt (blk w b) o) w (rawLoad Try.prog 40 ⟨b, o, none⟩ w) := load_one Try.underlying40 rfl w b o
theorem Try.st40 (w : World) (b o : Nat) (v : Value) : (storeOp 40 (.pointer (some ⟨b, o, none⟩)) v).run Try.prog w = putOr (storeIn w (blk w b) b o 1 v) (rawStore Try.prog 40 ⟨b, o, none⟩ v w) := store_any (by kernel_rfl) w b o v
theorem Try.ld42 (w : World) (b o : Nat) : (loadOp 42 (.pointer (some ⟨b, o, none⟩))).run Try.prog w = lookOr (cellAt (blk w b) o) w (rawLoad Try.prog 42 ⟨b, o, none⟩ w) := load_one Try.underlying42 rfl w b o
theorem Try.st42 (w : World) (b o : Nat) (v : Value) : (storeOp 42 (.pointer (some ⟨b, o, none⟩)) v).run Try.prog w = putOr (storeIn w (blk w b) b o 1 v) (rawStore Try.prog 42 ⟨b, o, none⟩ v w) := store_any (by kernel_rfl) w b o v
theorem Try.ld47 (w : World) (b o : Nat) : (loadOp 47 (.pointer (some ⟨b, o, none⟩))).run Try.prog w = lookOr (cellAt (blk w b) o) w (rawLoad Try.prog 47 ⟨b, o, none⟩ w) := load_one Try.underlying47 rfl w b o
theorem Try.st47 (w : World) (b o : Nat) (v : Value) : (storeOp 47 (.pointer (some ⟨b, o, none⟩)) v).run Try.prog w = putOr (storeIn w (blk w b) b o 1 v) (rawStore Try.prog 47 ⟨b, o, none⟩ v w) := store_any (by kernel_rfl) w b o v
theorem Try.ld48 (w : World) (b o : Nat) : (loadOp 48 (.pointer (some ⟨b, o, none⟩))).run Try.prog w = lookOr (cellAt (blk w b) o) w (rawLoad Try.prog 48 ⟨b, o, none⟩ w) := load_one Try.underlying48 rfl w b o
theorem Try.st48 (w : World) (b o : Nat) (v : Value) : (storeOp 48 (.pointer (some ⟨b, o, none⟩)) v).run Try.prog w = putOr (storeIn w (blk w b) b o 1 v) (rawStore Try.prog 48 ⟨b, o, none⟩ v w) := store_any (by kernel_rfl) w b o v
theorem Try.ld57 (w : World) (b o : Nat) : (loadOp 57 (.pointer (some ⟨b, o, none⟩))).run Try.prog w = lookOr (cellAt (blk w b) o) w (rawLoad Try.prog 57 ⟨b, o, none⟩ w) := load_one Try.underlying57 rfl w b o
theorem Try.st57 (w : World) (b o : Nat) (v : Value) : (storeOp 57 (.pointer (some ⟨b, o, none⟩)) v).run Try.prog w = putOr (storeIn w (blk w b) b o 1 v) (rawStore Try.prog 57 ⟨b, o, none⟩ v w) := store_any (by kernel_rfl) w b o v
theorem Try.ld58 (w : World) (b o : Nat) : (loadOp 58 (.pointer (some ⟨b, o, none⟩))).run Try.prog w = lookOr (cellAt (blk w b) o) w (rawLoad Try.prog 58 ⟨b, o, none⟩ w) := load_one Try.underlying58 rfl w b o
theorem Try.st58 (w : World) (b o : Nat) (v : Value) : (storeOp 58 (.pointer (some ⟨b, o, none⟩)) v).run Try.prog w = putOr (storeIn w (blk w b) b o 1 v) (rawStore Try.prog 58 ⟨b, o, none⟩ v w) := store_any (by kernel_rfl) w b o v
theorem Try.ld2 (w : World) (b o : Nat) : (loadOp 2 (.pointer (some ⟨b, o, none⟩))).run Try.prog w = lookOr (cellAt (blk w b) o) w (rawLoad Try.prog 2 ⟨b, o, none⟩ w) := load_one Try.underlying2 rfl w b o
theorem Try.st2 (w : World) (b o : Nat) (v : Value) : (storeOp 2 (.pointer (some ⟨b, o, none⟩)) v).run Try.prog w = putOr (storeIn w (blk w b) b o 1 v) (rawStore Try.prog 2 ⟨b, o, none⟩ v w) := store_any (by kernel_rfl) w b o v
theorem Try.ld9 (w : World) (b o : Nat) : (loadOp 9 (.pointer (some ⟨b, o, none⟩))).run Try.prog w = lookOr (cellAt (blk w b) o) w (rawLoad Try.prog 9 ⟨b, o, none⟩ w) := load_one Try.underlying9 rfl w b o
theorem Try.st9 (w : World) (b o : Nat) (v : Value) : (storeOp 9 (.pointer (some ⟨b, o, none⟩)) v).run Try.prog w = putOr (storeIn w (blk w b) b o 1 v) (rawStore Try.prog 9 ⟨b, o, none⟩ v w) := store_any (by kernel_rfl) w b o v
theorem Try.ld12 (w : World) (b o : Nat) : (loadOp 12 (.pointer (some ⟨b, o, none⟩))).run Try.prog w = lookOr (cellAt (blk w b) o) w (rawLoad Try.prog 12 ⟨b, o, none⟩ w) := load_one Try.underlying12 rfl w b o
theorem Try.st12 (w : World) (b o : Nat) (v : Value) : (storeOp 12 (.pointer (some ⟨b, o, none⟩)) v).run Try.prog w = putOr (storeIn w (blk w b) b o 1 v) (rawStore Try.prog 12 ⟨b, o, none⟩ v w) := store_any (by kernel_rfl) w b o v
theorem Try.ld21 (w : World) (b o : Nat) : (loadOp 21 (.pointer (some ⟨b, o, none⟩))).run Try.prog w = lookOr (cellAt (blk w b) o) w (rawLoad Try.prog 21 ⟨b, o, none⟩ w) := load_one Try.underlying21 rfl w b o
theorem Try.st21 (w : World) (b o : Nat) (v : Value) : (storeOp 21 (.pointer (some ⟨b, o, none⟩)) v).run Try.prog w = putOr (storeIn w (blk w b) b o 1 v) (rawStore Try.prog 21 ⟨b, o, none⟩ v w) := store_any (by kernel_rfl) w b o v
theorem Try.ld22 (w : World) (b o : Nat) : (loadOp 22 (.pointer (some ⟨b, o, none⟩))).run Try.prog w = lookOr (cellAt (blk w b) o) w (rawLoad Try.prog 22 ⟨b, o, none⟩ w) := load_one Try.underlying22 rfl w b o
theorem Try.st22 (w : World) (b o : Nat) (v : Value) : (storeOp 22 (.pointer (some ⟨b, o, none⟩)) v).run Try.prog w = putOr (storeIn w (blk w b) b o 1 v) (rawStore Try.prog 22 ⟨b, o, none⟩ v w) := store_any (by kernel_rfl) w b o v
theorem Try.ld46 (w : World) (b o : Nat) : (loadOp 46 (.pointer (some ⟨b, o, none⟩))).run Try.prog w = lookOr (cellAt (blk w b) o) w (rawLoad Try.prog 46 ⟨b, o, none⟩ w) := load_one Try.underlying46 rfl w b o
theorem Try.st46 (w : World) (b o : Nat) (v : Value) : (storeOp 46 (.pointer (some ⟨b, o, none⟩)) v).run Try.prog w = putOr (storeIn w (blk w b) b o 1 v) (rawStore Try.prog 46 ⟨b, o, none⟩ v w) := store_any (by kernel_rfl) w b o v
theorem Try.ld83 (w : World) (b o : Nat) : (loadOp 83 (.pointer (some ⟨b, o, none⟩))).run Try.prog w = lookOr (cellAt (blk w b) o) w (rawLoad Try.prog 83 ⟨b, o, none⟩ w) := load_one Try.underlying83 rfl w b o
theorem Try.st83 (w : World) (b o : Nat) (v : Value) : (storeOp 83 (.pointer (some ⟨b, o, none⟩)) v).run Try.prog w = putOr (storeIn w (blk w b) b o 1 v) (rawStore Try.prog 83 ⟨b, o, none⟩ v w) := store_any (by kernel_rfl) w b o v
theorem Try.ld95 (w : World) (b o : Nat) : (loadOp 95 (.pointer (some ⟨b, o, none⟩))).run Try.prog w = lookOr (cellAt (blk w b) o) w (rawLoad Try.prog 95 ⟨b, o, none⟩ w) := load_one Try.underlying95 rfl w b o
theorem Try.st95 (w : World) (b o : Nat) (v : Value) : (storeOp 95 (.pointer (some ⟨b, o, none⟩)) v).run Try.prog w = putOr (storeIn w (blk w b) b o 1 v) (rawStore Try.prog 95 ⟨b, o, none⟩ v w) := store_any (by kernel_rfl) w b o v
theorem Try.ld99 (w : World) (b o : Nat) : (loadOp 99 (.pointer (some ⟨b, o, none⟩))).run Try.prog w = lookOr (cellAt (blk w b) o) w (rawLoad Try.prog 99 ⟨b, o, none⟩ w) := load_one Try.underlying99 rfl w b o
theorem Try.st99 (w : World) (b o : Nat) (v : Value) : (storeOp 99 (.pointer (some ⟨b, o, none⟩)) v).run Try.prog w = putOr (storeIn w (blk w b) b o 1 v) (rawStore Try.prog 99 ⟨b, o, none⟩ v w) := store_any (by kernel_rfl) w b o v
theorem Try.ld106 (w : World) (b o : Nat) : (loadOp 106 (.pointer (some ⟨b, o, none⟩))).run Try.prog w = lookOr (cellAt (blk w b) o) w (rawLoad Try.prog 106 ⟨b, o, none⟩ w) := load_one Try.underlying106 rfl w b o
theorem Try.st106 (w : World) (b o : Nat) (v : Value) : (storeOp 106 (.pointer (some ⟨b, o, none⟩)) v).run Try.prog w = putOr (storeIn w (blk w b) b o 1 v) (rawStore Try.prog 106 ⟨b, o, none⟩ v w) := store_any (by kernel_rfl) w b o v
theorem Try.ld108 (w : World) (b o : Nat) : (loadOp 108 (.pointer (some ⟨b, o, none⟩))).run Try.prog w = lookOr (cellAt (blk w b) o) w (rawLoad Try.prog 108 ⟨b, o, none⟩ w) := load_one Try.underlying108 rfl w b o
theorem Try.st108 (w : World) (b o : Nat) (v : Value) : (storeOp 108 (.pointer (some ⟨b, o, none⟩)) v).run Try.prog w = putOr (storeIn w (blk w b) b o 1 v) (rawStore Try.prog 108 ⟨b, o, none⟩ v w) := store_any (by kernel_rfl) w b o v
theorem Try.ld134 (w : World) (b o : Nat) : (loadOp 134 (.pointer (some ⟨b, o, none⟩))).run Try.prog w = lookOr (cellAt (blk w b) o) w (rawLoad Try.prog 134 ⟨b, o, none⟩ w) := load_one Try.underlying134 rfl w b o
theorem Try.st134 (w : World) (b o : Nat) (v : Value) : (storeOp 134 (.pointer (some ⟨b, o, none⟩)) v).run Try.prog w = putOr (storeIn w (blk w b) b o 1 v) (rawStore Try.prog 134 ⟨b, o, none⟩ v w) := store_any (by kernel_rfl) w b o v
theorem Try.ld25 (w : World) (b o : Nat) : (loadOp 25 (.pointer (some ⟨b, o, none⟩))).run Try.prog w = lookOr (segAt (blk w b) o 8) w (rawLoad Try.prog 25 ⟨b, o, none⟩ w) := load_agg Try.underlying25 rfl (by kernel_rfl) w b o
theorem Try.st25 (w : World) (b o : Nat) (v : Value) : (storeOp 25 (.pointer (some ⟨b, o, none⟩)) v).run Try.prog w = putOr (storeIn w (blk w b) b o 8 v) (rawStore Try.prog 25 ⟨b, o, none⟩ v w) := store_any (by kernel_rfl) w b o v
theorem Try.al25 (w : World) : (allocOp 25).run Try.prog w = .ok (.value (.pointer (some ⟨w.heap.size, 0, none⟩))) (w.alloc (.cells (arr u32v ((Vector.replicate 8 0) : (Vector UInt32 8))).toArray 25)) := alloc_any (v := .agg (arr u32v ((Vector.replicate 8 0) : (Vector UInt32 8))).toArray) (by kernel_rfl) w
theorem Try.ld26 (w : World) (b o : Nat) : (loadOp 26 (.pointer (some ⟨b, o, none⟩))).run Try.prog w = lookOr (segAt (blk w b) o 64) w (rawLoad Try.prog 26 ⟨b, o, none⟩ w) := load_agg Try.underlying26 rfl (by kernel_rfl) w b o
theorem Try.st26 (w : World) (b o : Nat) (v : Value) : (storeOp 26 (.pointer (some ⟨b, o, none⟩)) v).run Try.prog w = putOr (storeIn w (blk w b) b o 64 v) (rawStore Try.prog 26 ⟨b, o, none⟩ v w) := store_any (by kernel_rfl) w b o v
theorem Try.al26 (w : World) : (allocOp 26).run Try.prog w = .ok (.value (.pointer (some ⟨w.heap.size, 0, none⟩))) (w.alloc (.cells (arr u8v ((Vector.replicate 64 0) : (Vector UInt8 64))).toArray 26)) := alloc_any (v := .agg (arr u8v ((Vector.replicate 64 0) : (Vector UInt8 64))).toArray) (by kernel_rfl) w
theorem Try.ld34 (w : World) (b o : Nat) : (loadOp 34 (.pointer (some ⟨b, o, none⟩))).run Try.prog w = lookOr (segAt (blk w b) o 64) w (rawLoad Try.prog 34 ⟨b, o, none⟩ w) := load_agg Try.underlying34 rfl (by kernel_rfl) w b o
theorem Try.st34 (w : World) (b o : Nat) (v : Value) : (storeOp 34 (.pointer (some ⟨b, o, none⟩)) v).run Try.prog w = putOr (storeIn w (blk w b) b o 64 v) (rawStore Try.prog 34 ⟨b, o, none⟩ v w) := store_any (by kernel_rfl) w b o v
theorem Try.al34 (w : World) : (allocOp 34).run Try.prog w = .ok (.value (.pointer (some ⟨w.heap.size, 0, none⟩))) (w.alloc (.cells (arr Sl.val ((Vector.replicate 64 ⟨none, 0, 0⟩) : (Vector Sl 64))).toArray 34)) := alloc_any (v := .agg (arr Sl.val ((Vector.replicate 64 ⟨none, 0, 0⟩) : (Vector Sl 64))).toArray) (by kernel_rfl) w
theorem Try.ld31 (w : World) (b o : Nat) : (loadOp 31 (.pointer (some ⟨b, o, none⟩))).run Try.prog w = lookOr (segAt (blk w b) o 32) w (rawLoad Try.prog 31 ⟨b, o, none⟩ w) := load_agg Try.underlying31 rfl (by kernel_rfl) w b o
theorem Try.st31 (w : World) (b o : Nat) (v : Value) : (storeOp 31 (.pointer (some ⟨b, o, none⟩)) v).run Try.prog w = putOr (storeIn w (blk w b) b o 32 v) (rawStore Try.prog 31 ⟨b, o, none⟩ v w) := store_any (by kernel_rfl) w b o v
theorem Try.al31 (w : World) : (allocOp 31).run Try.prog w = .ok (.value (.pointer (some ⟨w.heap.size, 0, none⟩))) (w.alloc (.cells (arr u8v ((Vector.replicate 32 0) : (Vector UInt8 32))).toArray 31)) := alloc_any (v := .agg (arr u8v ((Vector.replicate 32 0) : (Vector UInt8 32))).toArray) (by kernel_rfl) w
theorem Try.ld30 (w : World) (b o : Nat) : (loadOp 30 (.pointer (some ⟨b, o, none⟩))).run Try.prog w = lookOr (segAt (blk w b) o 32) w (rawLoad Try.prog 30 ⟨b, o, none⟩ w) := load_agg Try.underlying30 rfl (by kernel_rfl) w b o
theorem Try.st30 (w : World) (b o : Nat) (v : Value) : (storeOp 30 (.pointer (some ⟨b, o, none⟩)) v).run Try.prog w = putOr (storeIn w (blk w b) b o 32 v) (rawStore Try.prog 30 ⟨b, o, none⟩ v w) := store_any (by kernel_rfl) w b o v
theorem Try.al30 (w : World) : (allocOp 30).run Try.prog w = .ok (.value (.pointer (some ⟨w.heap.size, 0, none⟩))) (w.alloc (.cells (arr u8v ((Vector.replicate 32 0) : (Vector UInt8 32))).toArray 30)) := alloc_any (v := .agg (arr u8v ((Vector.replicate 32 0) : (Vector UInt8 32))).toArray) (by kernel_rfl) w
theorem Try.ld74 (w : World) (b o : Nat) : (loadOp 74 (.pointer (some ⟨b, o, none⟩))).run Try.prog w = lookOr (segAt (blk w b) o 352) w (rawLoad Try.prog 74 ⟨b, o, none⟩ w) := load_agg Try.underlying74 rfl (by kernel_rfl) w b o
theorem Try.st74 (w : World) (b o : Nat) (v : Value) : (storeOp 74 (.pointer (some ⟨b, o, none⟩)) v).run Try.prog w = putOr (storeIn w (blk w b) b o 352 v) (rawStore Try.prog 74 ⟨b, o, none⟩ v w) := store_any (by kernel_rfl) w b o v
theorem Try.al74 (w : World) : (allocOp 74).run Try.prog w = .ok (.value (.pointer (some ⟨w.heap.size, 0, none⟩))) (w.alloc (.cells (arrS (fun x => arr u8v x) ((Vector.replicate 11 (Vector.replicate 32 0)) : (Vector (Vector UInt8 32) 11))).toArray 74)) := alloc_any (v := .agg (arrS (fun x => arr u8v x) ((Vector.replicate 11 (Vector.replicate 32 0)) : (Vector (Vector UInt8 32) 11))).toArray) (by kernel_rfl) w
theorem Try.ld96 (w : World) (b o : Nat) : (loadOp 96 (.pointer (some ⟨b, o, none⟩))).run Try.prog w = lookOr (segAt (blk w b) o 128) w (rawLoad Try.prog 96 ⟨b, o, none⟩ w) := load_agg Try.underlying96 rfl (by kernel_rfl) w b o
theorem Try.st96 (w : World) (b o : Nat) (v : Value) : (storeOp 96 (.pointer (some ⟨b, o, none⟩)) v).run Try.prog w = putOr (storeIn w (blk w b) b o 128 v) (rawStore Try.prog 96 ⟨b, o, none⟩ v w) := store_any (by kernel_rfl) w b o v
theorem Try.al96 (w : World) : (allocOp 96).run Try.prog w = .ok (.value (.pointer (some ⟨w.heap.size, 0, none⟩))) (w.alloc (.cells (arr u8v ((Vector.replicate 128 0) : (Vector UInt8 128))).toArray 96)) := alloc_any (v := .agg (arr u8v ((Vector.replicate 128 0) : (Vector UInt8 128))).toArray) (by kernel_rfl) w
theorem Try.ld101 (w : World) (b o : Nat) : (loadOp 101 (.pointer (some ⟨b, o, none⟩))).run Try.prog w = lookOr (segAt (blk w b) o 64) w (rawLoad Try.prog 101 ⟨b, o, none⟩ w) := load_agg Try.underlying101 rfl (by kernel_rfl) w b o
theorem Try.st101 (w : World) (b o : Nat) (v : Value) : (storeOp 101 (.pointer (some ⟨b, o, none⟩)) v).run Try.prog w = putOr (storeIn w (blk w b) b o 64 v) (rawStore Try.prog 101 ⟨b, o, none⟩ v w) := store_any (by kernel_rfl) w b o v
theorem Try.al101 (w : World) : (allocOp 101).run Try.prog w = .ok (.value (.pointer (some ⟨w.heap.size, 0, none⟩))) (w.alloc (.cells (arr u32v ((Vector.replicate 64 0) : (Vector UInt32 64))).toArray 101)) := alloc_any (v := .agg (arr u32v ((Vector.replicate 64 0) : (Vector UInt32 64))).toArray) (by kernel_rfl) w
theorem Try.ld115 (w : World) (b o : Nat) : (loadOp 115 (.pointer (some ⟨b, o, none⟩))).run Try.prog w = lookOr (segAt (blk w b) o 6) w (rawLoad Try.prog 115 ⟨b, o, none⟩ w) := load_agg Try.underlying115 rfl (by kernel_rfl) w b o
theorem Try.st115 (w : World) (b o : Nat) (v : Value) : (storeOp 115 (.pointer (some ⟨b, o, none⟩)) v).run Try.prog w = putOr (storeIn w (blk w b) b o 6 v) (rawStore Try.prog 115 ⟨b, o, none⟩ v w) := store_any (by kernel_rfl) w b o v
theorem Try.al115 (w : World) : (allocOp 115).run Try.prog w = .ok (.value (.pointer (some ⟨w.heap.size, 0, none⟩))) (w.alloc (.cells (arr u64v ((Vector.replicate 6 0) : (Vector UInt64 6))).toArray 115)) := alloc_any (v := .agg (arr u64v ((Vector.replicate 6 0) : (Vector UInt64 6))).toArray) (by kernel_rfl) w
theorem Try.ld116 (w : World) (b o : Nat) : (loadOp 116 (.pointer (some ⟨b, o, none⟩))).run Try.prog w = lookOr (segAt (blk w b) o 6) w (rawLoad Try.prog 116 ⟨b, o, none⟩ w) := load_agg Try.underlying116 rfl (by kernel_rfl) w b o
theorem Try.st116 (w : World) (b o : Nat) (v : Value) : (storeOp 116 (.pointer (some ⟨b, o, none⟩)) v).run Try.prog w = putOr (storeIn w (blk w b) b o 6 v) (rawStore Try.prog 116 ⟨b, o, none⟩ v w) := store_any (by kernel_rfl) w b o v
theorem Try.al116 (w : World) : (allocOp 116).run Try.prog w = .ok (.value (.pointer (some ⟨w.heap.size, 0, none⟩))) (w.alloc (.cells (arr u64v ((Vector.replicate 6 0) : (Vector UInt64 6))).toArray 116)) := alloc_any (v := .agg (arr u64v ((Vector.replicate 6 0) : (Vector UInt64 6))).toArray) (by kernel_rfl) w
theorem Try.ld120 (w : World) (b o : Nat) : (loadOp 120 (.pointer (some ⟨b, o, none⟩))).run Try.prog w = lookOr (segAt (blk w b) o 4) w (rawLoad Try.prog 120 ⟨b, o, none⟩ w) := load_agg Try.underlying120 rfl (by kernel_rfl) w b o
theorem Try.st120 (w : World) (b o : Nat) (v : Value) : (storeOp 120 (.pointer (some ⟨b, o, none⟩)) v).run Try.prog w = putOr (storeIn w (blk w b) b o 4 v) (rawStore Try.prog 120 ⟨b, o, none⟩ v w) := store_any (by kernel_rfl) w b o v
theorem Try.al120 (w : World) : (allocOp 120).run Try.prog w = .ok (.value (.pointer (some ⟨w.heap.size, 0, none⟩))) (w.alloc (.cells (arr u8v ((Vector.replicate 4 0) : (Vector UInt8 4))).toArray 120)) := alloc_any (v := .agg (arr u8v ((Vector.replicate 4 0) : (Vector UInt8 4))).toArray) (by kernel_rfl) w
theorem Try.ld121 (w : World) (b o : Nat) : (loadOp 121 (.pointer (some ⟨b, o, none⟩))).run Try.prog w = lookOr (segAt (blk w b) o 8) w (rawLoad Try.prog 121 ⟨b, o, none⟩ w) := load_agg Try.underlying121 rfl (by kernel_rfl) w b o
theorem Try.st121 (w : World) (b o : Nat) (v : Value) : (storeOp 121 (.pointer (some ⟨b, o, none⟩)) v).run Try.prog w = putOr (storeIn w (blk w b) b o 8 v) (rawStore Try.prog 121 ⟨b, o, none⟩ v w) := store_any (by kernel_rfl) w b o v
theorem Try.al121 (w : World) : (allocOp 121).run Try.prog w = .ok (.value (.pointer (some ⟨w.heap.size, 0, none⟩))) (w.alloc (.cells (arr u8v ((Vector.replicate 8 0) : (Vector UInt8 8))).toArray 121)) := alloc_any (v := .agg (arr u8v ((Vector.replicate 8 0) : (Vector UInt8 8))).toArray) (by kernel_rfl) w
theorem Try.ld122 (w : World) (b o : Nat) : (loadOp 122 (.pointer (some ⟨b, o, none⟩))).run Try.prog w = lookOr (segAt (blk w b) o 16) w (rawLoad Try.prog 122 ⟨b, o, none⟩ w) := load_agg Try.underlying122 rfl (by kernel_rfl) w b o
theorem Try.st122 (w : World) (b o : Nat) (v : Value) : (storeOp 122 (.pointer (some ⟨b, o, none⟩)) v).run Try.prog w = putOr (storeIn w (blk w b) b o 16 v) (rawStore Try.prog 122 ⟨b, o, none⟩ v w) := store_any (by kernel_rfl) w b o v
theorem Try.al122 (w : World) : (allocOp 122).run Try.prog w = .ok (.value (.pointer (some ⟨w.heap.size, 0, none⟩))) (w.alloc (.cells (arr u32v ((Vector.replicate 16 0) : (Vector UInt32 16))).toArray 122)) := alloc_any (v := .agg (arr u32v ((Vector.replicate 16 0) : (Vector UInt32 16))).toArray) (by kernel_rfl) w
theorem Try.ld29 (w : World) (b o : Nat) : (loadOp 29 (.pointer (some ⟨b, o, none⟩))).run Try.prog w = lookOr (segAt (blk w b) o 74) w (rawLoad Try.prog 29 ⟨b, o, none⟩ w) := load_agg Try.underlying29 rfl (by kernel_rfl) w b o
theorem Try.st29 (w : World) (b o : Nat) (v : Value) : (storeOp 29 (.pointer (some ⟨b, o, none⟩)) v).run Try.prog w = putOr (storeIn w (blk w b) b o 74 v) (rawStore Try.prog 29 ⟨b, o, none⟩ v w) := store_any (by kernel_rfl) w b o v
theorem Try.al29 (w : World) : (allocOp 29).run Try.prog w = .ok (.value (.pointer (some ⟨w.heap.size, 0, none⟩))) (w.alloc (.cells (Hasher.enc (Hasher.zero : Hasher)).toArray 29)) := alloc_any (v := .agg (Hasher.enc (Hasher.zero : Hasher)).toArray) (by kernel_rfl) w
theorem Try.ld36 (w : World) (b o : Nat) : (loadOp 36 (.pointer (some ⟨b, o, none⟩))).run Try.prog w = lookOr (segAt (blk w b) o 68) w (rawLoad Try.prog 36 ⟨b, o, none⟩ w) := load_agg Try.underlying36 rfl (by kernel_rfl) w b o
theorem Try.st36 (w : World) (b o : Nat) (v : Value) : (storeOp 36 (.pointer (some ⟨b, o, none⟩)) v).run Try.prog w = putOr (storeIn w (blk w b) b o 68 v) (rawStore Try.prog 36 ⟨b, o, none⟩ v w) := store_any (by kernel_rfl) w b o v
theorem Try.al36 (w : World) : (allocOp 36).run Try.prog w = .ok (.value (.pointer (some ⟨w.heap.size, 0, none⟩))) (w.alloc (.cells (GLog.enc (GLog.zero : GLog)).toArray 36)) := alloc_any (v := .agg (GLog.enc (GLog.zero : GLog)).toArray) (by kernel_rfl) w
theorem Try.ld38 (w : World) (b o : Nat) : (loadOp 38 (.pointer (some ⟨b, o, none⟩))).run Try.prog w = lookOr (segAt (blk w b) o 280) w (rawLoad Try.prog 38 ⟨b, o, none⟩ w) := load_agg Try.underlying38 rfl (by kernel_rfl) w b o
theorem Try.st38 (w : World) (b o : Nat) (v : Value) : (storeOp 38 (.pointer (some ⟨b, o, none⟩)) v).run Try.prog w = putOr (storeIn w (blk w b) b o 280 v) (rawStore Try.prog 38 ⟨b, o, none⟩ v w) := store_any (by kernel_rfl) w b o v
theorem Try.al38 (w : World) : (allocOp 38).run Try.prog w = .ok (.value (.pointer (some ⟨w.heap.size, 0, none⟩))) (w.alloc (.cells (Player.enc (Player.zero : Player)).toArray 38)) := alloc_any (v := .agg (Player.enc (Player.zero : Player)).toArray) (by kernel_rfl) w
theorem Try.ld44 (w : World) (b o : Nat) : (loadOp 44 (.pointer (some ⟨b, o, none⟩))).run Try.prog w = lookOr (segAt (blk w b) o 39) w (rawLoad Try.prog 44 ⟨b, o, none⟩ w) := load_agg Try.underlying44 rfl (by kernel_rfl) w b o
theorem Try.st44 (w : World) (b o : Nat) (v : Value) : (storeOp 44 (.pointer (some ⟨b, o, none⟩)) v).run Try.prog w = putOr (storeIn w (blk w b) b o 39 v) (rawStore Try.prog 44 ⟨b, o, none⟩ v w) := store_any (by kernel_rfl) w b o v
theorem Try.al44 (w : World) : (allocOp 44).run Try.prog w = .ok (.value (.pointer (some ⟨w.heap.size, 0, none⟩))) (w.alloc (.cells (GOp.enc (GOp.zero : GOp)).toArray 44)) := alloc_any (v := .agg (GOp.enc (GOp.zero : GOp)).toArray) (by kernel_rfl) w
theorem Try.ld50 (w : World) (b o : Nat) : (loadOp 50 (.pointer (some ⟨b, o, none⟩))).run Try.prog w = lookOr (segAt (blk w b) o 37) w (rawLoad Try.prog 50 ⟨b, o, none⟩ w) := load_agg Try.underlying50 rfl (by kernel_rfl) w b o
theorem Try.st50 (w : World) (b o : Nat) (v : Value) : (storeOp 50 (.pointer (some ⟨b, o, none⟩)) v).run Try.prog w = putOr (storeIn w (blk w b) b o 37 v) (rawStore Try.prog 50 ⟨b, o, none⟩ v w) := store_any (by kernel_rfl) w b o v
theorem Try.al50 (w : World) : (allocOp 50).run Try.prog w = .ok (.value (.pointer (some ⟨w.heap.size, 0, none⟩))) (w.alloc (.cells (Answer.enc (Answer.zero : Answer)).toArray 50)) := alloc_any (v := .agg (Answer.enc (Answer.zero : Answer)).toArray) (by kernel_rfl) w
theorem Try.ld60 (w : World) (b o : Nat) : (loadOp 60 (.pointer (some ⟨b, o, none⟩))).run Try.prog w = lookOr (segAt (blk w b) o 71) w (rawLoad Try.prog 60 ⟨b, o, none⟩ w) := load_agg Try.underlying60 rfl (by kernel_rfl) w b o
theorem Try.st60 (w : World) (b o : Nat) (v : Value) : (storeOp 60 (.pointer (some ⟨b, o, none⟩)) v).run Try.prog w = putOr (storeIn w (blk w b) b o 71 v) (rawStore Try.prog 60 ⟨b, o, none⟩ v w) := store_any (by kernel_rfl) w b o v
theorem Try.al60 (w : World) : (allocOp 60).run Try.prog w = .ok (.value (.pointer (some ⟨w.heap.size, 0, none⟩))) (w.alloc (.cells (GState.enc (GState.zero : GState)).toArray 60)) := alloc_any (v := .agg (GState.enc (GState.zero : GState)).toArray) (by kernel_rfl) w
theorem Try.ld110 (w : World) (b o : Nat) : (loadOp 110 (.pointer (some ⟨b, o, none⟩))).run Try.prog w = lookOr (segAt (blk w b) o 33) w (rawLoad Try.prog 110 ⟨b, o, none⟩ w) := load_agg Try.underlying110 rfl (by kernel_rfl) w b o
theorem Try.st110 (w : World) (b o : Nat) (v : Value) : (storeOp 110 (.pointer (some ⟨b, o, none⟩)) v).run Try.prog w = putOr (storeIn w (blk w b) b o 33 v) (rawStore Try.prog 110 ⟨b, o, none⟩ v w) := store_any (by kernel_rfl) w b o v
theorem Try.al110 (w : World) : (allocOp 110).run Try.prog w = .ok (.value (.pointer (some ⟨w.heap.size, 0, none⟩))) (w.alloc (.cells (Noted.enc (Noted.zero : Noted)).toArray 110)) := alloc_any (v := .agg (Noted.enc (Noted.zero : Noted)).toArray) (by kernel_rfl) w
end Go.Proofs.Qxb6500785a
