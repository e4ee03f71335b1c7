/- WRITTEN BY A PROGRAM (tools/gentypes.py) off the dump's types: Go's structs as Lean structures, their cells, their fields' places. -/
import Derived.Test.Qxb6500786aProg
import Derived.Test.Qxb6500786aMem
namespace Go.Proofs.Qxb6500786a
open Go.Blk
set_option linter.unusedSimpArgs false

structure Message where
  kind : UInt8
  from_ : UInt8
  to_ : UInt8
  sender : UInt8
  receiver : UInt8
  seq : UInt64
  token : UInt8
  amount : UInt64
  size : UInt8
  payload : (Vector UInt8 32)
def Message.zero : Message := ⟨0, 0, 0, 0, 0, 0, 0, 0, 0, (Vector.replicate 32 0)⟩
def Message.enc (x : Message) : List Value :=
  [.int .u8 (w8 x.kind)] ++ ([.int .u8 (w8 x.from_)] ++ ([.int .u8 (w8 x.to_)] ++ ([.int .u8 (w8 x.sender)] ++ ([.int .u8 (w8 x.receiver)] ++ ([.int .u64 (w64 x.seq)] ++ ([.int .u8 (w8 x.token)] ++ ([.int .u64 (w64 x.amount)] ++ ([.int .u8 (w8 x.size)] ++ (arr u8v x.payload)))))))))
theorem Message.length_enc (x : Message) : x.enc.length = 41 := by simp [Message.enc, length_arr, length_arrS]
theorem Message.one_enc (x : Message) : x.enc.all (fun v => v.oneCell') = true := by simp only [Message.enc, List.all_append, List.all_cons, List.all_nil, oneC_int, oneC_bool, oneC_string, oneC_pointer, oneC_slice, Bool.and_true, Bool.true_and, implies_true, one_arr_u8, one_arr_u32, one_arr_u64, one_arr_i64, one_arr_bool, one_arr_str, one_arr_ptr, one_arr_sl, one_arrS, one_u8, one_u32, one_u64, one_i64, one_bool, one_str, one_sl, one_ptr]
theorem Message.ok_enc (x : Message) : okCells 41 x.enc = true := ok_mk x.length_enc x.one_enc
theorem Message.all_get (x : Message) : seg x.enc 0 41 = x.enc := seg_all _ _ x.length_enc
theorem Message.all_set (x y : Message) : splice x.enc 0 y.enc = y.enc := splice_all _ _ (by rw [x.length_enc, y.length_enc])
theorem Message.kind_get (x : Message) : nth x.enc 0 = some (.int .u8 (w8 x.kind)) := get_of (pre := ([] : List Value)) (post := ([.int .u8 (w8 x.from_)] ++ [.int .u8 (w8 x.to_)] ++ [.int .u8 (w8 x.sender)] ++ [.int .u8 (w8 x.receiver)] ++ [.int .u64 (w64 x.seq)] ++ [.int .u8 (w8 x.token)] ++ [.int .u64 (w64 x.amount)] ++ [.int .u8 (w8 x.size)] ++ arr u8v x.payload : List Value)) (by simp [Message.enc]) (by simp [length_arr, length_arrS])
theorem Message.kind_set (x : Message) (y : UInt8) : splice x.enc 0 ([.int .u8 (w8 y)]) = ({ x with kind := y } : Message).enc := by
  rw [splice_of (pre := ([] : List Value)) (mid := [.int .u8 (w8 x.kind)]) (post := ([.int .u8 (w8 x.from_)] ++ [.int .u8 (w8 x.to_)] ++ [.int .u8 (w8 x.sender)] ++ [.int .u8 (w8 x.receiver)] ++ [.int .u64 (w64 x.seq)] ++ [.int .u8 (w8 x.token)] ++ [.int .u64 (w64 x.amount)] ++ [.int .u8 (w8 x.size)] ++ arr u8v x.payload : List Value)) (by simp [Message.enc]) (by simp [length_arr, length_arrS]) (by simp [length_arr, length_arrS])]
  simp [Message.enc]
theorem Message.from__get (x : Message) : nth x.enc 1 = some (.int .u8 (w8 x.from_)) := get_of (pre := ([.int .u8 (w8 x.kind)] : List Value)) (post := ([.int .u8 (w8 x.to_)] ++ [.int .u8 (w8 x.sender)] ++ [.int .u8 (w8 x.receiver)] ++ [.int .u64 (w64 x.seq)] ++ [.int .u8 (w8 x.token)] ++ [.int .u64 (w64 x.amount)] ++ [.int .u8 (w8 x.size)] ++ arr u8v x.payload : List Value)) (by simp [Message.enc]) (by simp [length_arr, length_arrS])
theorem Message.from__set (x : Message) (y : UInt8) : splice x.enc 1 ([.int .u8 (w8 y)]) = ({ x with from_ := y } : Message).enc := by
  rw [splice_of (pre := ([.int .u8 (w8 x.kind)] : List Value)) (mid := [.int .u8 (w8 x.from_)]) (post := ([.int .u8 (w8 x.to_)] ++ [.int .u8 (w8 x.sender)] ++ [.int .u8 (w8 x.receiver)] ++ [.int .u64 (w64 x.seq)] ++ [.int .u8 (w8 x.token)] ++ [.int .u64 (w64 x.amount)] ++ [.int .u8 (w8 x.size)] ++ arr u8v x.payload : List Value)) (by simp [Message.enc]) (by simp [length_arr, length_arrS]) (by simp [length_arr, length_arrS])]
  simp [Message.enc]
theorem Message.to__get (x : Message) : nth x.enc 2 = some (.int .u8 (w8 x.to_)) := get_of (pre := ([.int .u8 (w8 x.kind)] ++ [.int .u8 (w8 x.from_)] : List Value)) (post := ([.int .u8 (w8 x.sender)] ++ [.int .u8 (w8 x.receiver)] ++ [.int .u64 (w64 x.seq)] ++ [.int .u8 (w8 x.token)] ++ [.int .u64 (w64 x.amount)] ++ [.int .u8 (w8 x.size)] ++ arr u8v x.payload : List Value)) (by simp [Message.enc]) (by simp [length_arr, length_arrS])
theorem Message.to__set (x : Message) (y : UInt8) : splice x.enc 2 ([.int .u8 (w8 y)]) = ({ x with to_ := y } : Message).enc := by
  rw [splice_of (pre := ([.int .u8 (w8 x.kind)] ++ [.int .u8 (w8 x.from_)] : List Value)) (mid := [.int .u8 (w8 x.to_)]) (post := ([.int .u8 (w8 x.sender)] ++ [.int .u8 (w8 x.receiver)] ++ [.int .u64 (w64 x.seq)] ++ [.int .u8 (w8 x.token)] ++ [.int .u64 (w64 x.amount)] ++ [.int .u8 (w8 x.size)] ++ arr u8v x.payload : List Value)) (by simp [Message.enc]) (by simp [length_arr, length_arrS]) (by simp [length_arr, length_arrS])]
  simp [Message.enc]
theorem Message.sender_get (x : Message) : nth x.enc 3 = some (.int .u8 (w8 x.sender)) := get_of (pre := ([.int .u8 (w8 x.kind)] ++ [.int .u8 (w8 x.from_)] ++ [.int .u8 (w8 x.to_)] : List Value)) (post := ([.int .u8 (w8 x.receiver)] ++ [.int .u64 (w64 x.seq)] ++ [.int .u8 (w8 x.token)] ++ [.int .u64 (w64 x.amount)] ++ [.int .u8 (w8 x.size)] ++ arr u8v x.payload : List Value)) (by simp [Message.enc]) (by simp [length_arr, length_arrS])
theorem Message.sender_set (x : Message) (y : UInt8) : splice x.enc 3 ([.int .u8 (w8 y)]) = ({ x with sender := y } : Message).enc := by
  rw [splice_of (pre := ([.int .u8 (w8 x.kind)] ++ [.int .u8 (w8 x.from_)] ++ [.int .u8 (w8 x.to_)] : List Value)) (mid := [.int .u8 (w8 x.sender)]) (post := ([.int .u8 (w8 x.receiver)] ++ [.int .u64 (w64 x.seq)] ++ [.int .u8 (w8 x.token)] ++ [.int .u64 (w64 x.amount)] ++ [.int .u8 (w8 x.size)] ++ arr u8v x.payload : List Value)) (by simp [Message.enc]) (by simp [length_arr, length_arrS]) (by simp [length_arr, length_arrS])]
  simp [Message.enc]
theorem Message.receiver_get (x : Message) : nth x.enc 4 = some (.int .u8 (w8 x.receiver)) := get_of (pre := ([.int .u8 (w8 x.kind)] ++ [.int .u8 (w8 x.from_)] ++ [.int .u8 (w8 x.to_)] ++ [.int .u8 (w8 x.sender)] : List Value)) (post := ([.int .u64 (w64 x.seq)] ++ [.int .u8 (w8 x.token)] ++ [.int .u64 (w64 x.amount)] ++ [.int .u8 (w8 x.size)] ++ arr u8v x.payload : List Value)) (by simp [Message.enc]) (by simp [length_arr, length_arrS])
theorem Message.receiver_set (x : Message) (y : UInt8) : splice x.enc 4 ([.int .u8 (w8 y)]) = ({ x with receiver := y } : Message).enc := by
  rw [splice_of (pre := ([.int .u8 (w8 x.kind)] ++ [.int .u8 (w8 x.from_)] ++ [.int .u8 (w8 x.to_)] ++ [.int .u8 (w8 x.sender)] : List Value)) (mid := [.int .u8 (w8 x.receiver)]) (post := ([.int .u64 (w64 x.seq)] ++ [.int .u8 (w8 x.token)] ++ [.int .u64 (w64 x.amount)] ++ [.int .u8 (w8 x.size)] ++ arr u8v x.payload : List Value)) (by simp [Message.enc]) (by simp [length_arr, length_arrS]) (by simp [length_arr, length_arrS])]
  simp [Message.enc]
theorem Message.seq_get (x : Message) : nth x.enc 5 = some (.int .u64 (w64 x.seq)) := get_of (pre := ([.int .u8 (w8 x.kind)] ++ [.int .u8 (w8 x.from_)] ++ [.int .u8 (w8 x.to_)] ++ [.int .u8 (w8 x.sender)] ++ [.int .u8 (w8 x.receiver)] : List Value)) (post := ([.int .u8 (w8 x.token)] ++ [.int .u64 (w64 x.amount)] ++ [.int .u8 (w8 x.size)] ++ arr u8v x.payload : List Value)) (by simp [Message.enc]) (by simp [length_arr, length_arrS])
theorem Message.seq_set (x : Message) (y : UInt64) : splice x.enc 5 ([.int .u64 (w64 y)]) = ({ x with seq := y } : Message).enc := by
  rw [splice_of (pre := ([.int .u8 (w8 x.kind)] ++ [.int .u8 (w8 x.from_)] ++ [.int .u8 (w8 x.to_)] ++ [.int .u8 (w8 x.sender)] ++ [.int .u8 (w8 x.receiver)] : List Value)) (mid := [.int .u64 (w64 x.seq)]) (post := ([.int .u8 (w8 x.token)] ++ [.int .u64 (w64 x.amount)] ++ [.int .u8 (w8 x.size)] ++ arr u8v x.payload : List Value)) (by simp [Message.enc]) (by simp [length_arr, length_arrS]) (by simp [length_arr, length_arrS])]
  simp [Message.enc]
theorem Message.token_get (x : Message) : nth x.enc 6 = some (.int .u8 (w8 x.token)) := get_of (pre := ([.int .u8 (w8 x.kind)] ++ [.int .u8 (w8 x.from_)] ++ [.int .u8 (w8 x.to_)] ++ [.int .u8 (w8 x.sender)] ++ [.int .u8 (w8 x.receiver)] ++ [.int .u64 (w64 x.seq)] : List Value)) (post := ([.int .u64 (w64 x.amount)] ++ [.int .u8 (w8 x.size)] ++ arr u8v x.payload : List Value)) (by simp [Message.enc]) (by simp [length_arr, length_arrS])
theorem Message.token_set (x : Message) (y : UInt8) : splice x.enc 6 ([.int .u8 (w8 y)]) = ({ x with token := y } : Message).enc := by
  rw [splice_of (pre := ([.int .u8 (w8 x.kind)] ++ [.int .u8 (w8 x.from_)] ++ [.int .u8 (w8 x.to_)] ++ [.int .u8 (w8 x.sender)] ++ [.int .u8 (w8 x.receiver)] ++ [.int .u64 (w64 x.seq)] : List Value)) (mid := [.int .u8 (w8 x.token)]) (post := ([.int .u64 (w64 x.amount)] ++ [.int .u8 (w8 x.size)] ++ arr u8v x.payload : List Value)) (by simp [Message.enc]) (by simp [length_arr, length_arrS]) (by simp [length_arr, length_arrS])]
  simp [Message.enc]
theorem Message.amount_get (x : Message) : nth x.enc 7 = some (.int .u64 (w64 x.amount)) := get_of (pre := ([.int .u8 (w8 x.kind)] ++ [.int .u8 (w8 x.from_)] ++ [.int .u8 (w8 x.to_)] ++ [.int .u8 (w8 x.sender)] ++ [.int .u8 (w8 x.receiver)] ++ [.int .u64 (w64 x.seq)] ++ [.int .u8 (w8 x.token)] : List Value)) (post := ([.int .u8 (w8 x.size)] ++ arr u8v x.payload : List Value)) (by simp [Message.enc]) (by simp [length_arr, length_arrS])
theorem Message.amount_set (x : Message) (y : UInt64) : splice x.enc 7 ([.int .u64 (w64 y)]) = ({ x with amount := y } : Message).enc := by
  rw [splice_of (pre := ([.int .u8 (w8 x.kind)] ++ [.int .u8 (w8 x.from_)] ++ [.int .u8 (w8 x.to_)] ++ [.int .u8 (w8 x.sender)] ++ [.int .u8 (w8 x.receiver)] ++ [.int .u64 (w64 x.seq)] ++ [.int .u8 (w8 x.token)] : List Value)) (mid := [.int .u64 (w64 x.amount)]) (post := ([.int .u8 (w8 x.size)] ++ arr u8v x.payload : List Value)) (by simp [Message.enc]) (by simp [length_arr, length_arrS]) (by simp [length_arr, length_arrS])]
  simp [Message.enc]
theorem Message.size_get (x : Message) : nth x.enc 8 = some (.int .u8 (w8 x.size)) := get_of (pre := ([.int .u8 (w8 x.kind)] ++ [.int .u8 (w8 x.from_)] ++ [.int .u8 (w8 x.to_)] ++ [.int .u8 (w8 x.sender)] ++ [.int .u8 (w8 x.receiver)] ++ [.int .u64 (w64 x.seq)] ++ [.int .u8 (w8 x.token)] ++ [.int .u64 (w64 x.amount)] : List Value)) (post := (arr u8v x.payload : List Value)) (by simp [Message.enc]) (by simp [length_arr, length_arrS])
theorem Message.size_set (x : Message) (y : UInt8) : splice x.enc 8 ([.int .u8 (w8 y)]) = ({ x with size := y } : Message).enc := by
  rw [splice_of (pre := ([.int .u8 (w8 x.kind)] ++ [.int .u8 (w8 x.from_)] ++ [.int .u8 (w8 x.to_)] ++ [.int .u8 (w8 x.sender)] ++ [.int .u8 (w8 x.receiver)] ++ [.int .u64 (w64 x.seq)] ++ [.int .u8 (w8 x.token)] ++ [.int .u64 (w64 x.amount)] : List Value)) (mid := [.int .u8 (w8 x.size)]) (post := (arr u8v x.payload : List Value)) (by simp [Message.enc]) (by simp [length_arr, length_arrS]) (by simp [length_arr, length_arrS])]
  simp [Message.enc]
theorem Message.payload_get (x : Message) : seg x.enc 9 32 = arr u8v x.payload := part_of (pre := ([.int .u8 (w8 x.kind)] ++ [.int .u8 (w8 x.from_)] ++ [.int .u8 (w8 x.to_)] ++ [.int .u8 (w8 x.sender)] ++ [.int .u8 (w8 x.receiver)] ++ [.int .u64 (w64 x.seq)] ++ [.int .u8 (w8 x.token)] ++ [.int .u64 (w64 x.amount)] ++ [.int .u8 (w8 x.size)] : List Value)) (post := ([] : List Value)) (by simp [Message.enc]) (by simp [length_arr, length_arrS]) (by simp [length_arr, length_arrS])
theorem Message.payload_set (x : Message) (y : (Vector UInt8 32)) : splice x.enc 9 (arr u8v y) = ({ x with payload := y } : Message).enc := by
  rw [splice_of (pre := ([.int .u8 (w8 x.kind)] ++ [.int .u8 (w8 x.from_)] ++ [.int .u8 (w8 x.to_)] ++ [.int .u8 (w8 x.sender)] ++ [.int .u8 (w8 x.receiver)] ++ [.int .u64 (w64 x.seq)] ++ [.int .u8 (w8 x.token)] ++ [.int .u64 (w64 x.amount)] ++ [.int .u8 (w8 x.size)] : List Value)) (mid := arr u8v x.payload) (post := ([] : List Value)) (by simp [Message.enc]) (by simp [length_arr, length_arrS]) (by simp [length_arr, length_arrS])]
  simp [Message.enc]
theorem Message.payload_at (x : Message) (i : Nat) (h : i < 32) : nth x.enc (9 + i) = some (.int .u8 (w8 x.payload[i])) := by
  exact (get_sub (Message.payload_get x) (by simp [length_arr, length_arrS]; omega)).trans (arr_at _ _ h)
theorem Message.payload_put (x : Message) (i : Nat) (y : UInt8) (h : i < 32) : splice x.enc (9 + i) [.int .u8 (w8 y)] = ({ x with payload := x.payload.set i y h } : Message).enc := by
  rw [splice_sub (Message.payload_get x) (by simp [Message.length_enc]) (by simp; omega)]
  rw [show ([.int .u8 (w8 y)] : List Value) = [u8v y] from rfl, arr_put _ _ _ h, Message.payload_set]

structure Tx where
  kind : UInt8
  chain : UInt8
  from_ : UInt8
  nonce : UInt64
  fee : UInt64
  to_ : UInt8
  dest : UInt8
  token : UInt8
  amount : UInt64
  size : UInt8
  payload : (Vector UInt8 32)
  msg : Message
def Tx.zero : Tx := ⟨0, 0, 0, 0, 0, 0, 0, 0, 0, 0, (Vector.replicate 32 0), Message.zero⟩
def Tx.enc (x : Tx) : List Value :=
  [.int .u8 (w8 x.kind)] ++ ([.int .u8 (w8 x.chain)] ++ ([.int .u8 (w8 x.from_)] ++ ([.int .u64 (w64 x.nonce)] ++ ([.int .u64 (w64 x.fee)] ++ ([.int .u8 (w8 x.to_)] ++ ([.int .u8 (w8 x.dest)] ++ ([.int .u8 (w8 x.token)] ++ ([.int .u64 (w64 x.amount)] ++ ([.int .u8 (w8 x.size)] ++ (arr u8v x.payload ++ (Message.enc x.msg)))))))))))
theorem Tx.length_enc (x : Tx) : x.enc.length = 83 := by simp [Tx.enc, length_arr, length_arrS, Message.length_enc]
theorem Tx.one_enc (x : Tx) : x.enc.all (fun v => v.oneCell') = true := by simp only [Tx.enc, List.all_append, List.all_cons, List.all_nil, oneC_int, oneC_bool, oneC_string, oneC_pointer, oneC_slice, Bool.and_true, Bool.true_and, implies_true, one_arr_u8, one_arr_u32, one_arr_u64, one_arr_i64, one_arr_bool, one_arr_str, one_arr_ptr, one_arr_sl, one_arrS, one_u8, one_u32, one_u64, one_i64, one_bool, one_str, one_sl, one_ptr, Message.one_enc]
theorem Tx.ok_enc (x : Tx) : okCells 83 x.enc = true := ok_mk x.length_enc x.one_enc
theorem Tx.all_get (x : Tx) : seg x.enc 0 83 = x.enc := seg_all _ _ x.length_enc
theorem Tx.all_set (x y : Tx) : splice x.enc 0 y.enc = y.enc := splice_all _ _ (by rw [x.length_enc, y.length_enc])
theorem Tx.kind_get (x : Tx) : nth x.enc 0 = some (.int .u8 (w8 x.kind)) := get_of (pre := ([] : List Value)) (post := ([.int .u8 (w8 x.chain)] ++ [.int .u8 (w8 x.from_)] ++ [.int .u64 (w64 x.nonce)] ++ [.int .u64 (w64 x.fee)] ++ [.int .u8 (w8 x.to_)] ++ [.int .u8 (w8 x.dest)] ++ [.int .u8 (w8 x.token)] ++ [.int .u64 (w64 x.amount)] ++ [.int .u8 (w8 x.size)] ++ arr u8v x.payload ++ Message.enc x.msg : List Value)) (by simp [Tx.enc]) (by simp [length_arr, length_arrS, Message.length_enc])
theorem Tx.kind_set (x : Tx) (y : UInt8) : splice x.enc 0 ([.int .u8 (w8 y)]) = ({ x with kind := y } : Tx).enc := by
  rw [splice_of (pre := ([] : List Value)) (mid := [.int .u8 (w8 x.kind)]) (post := ([.int .u8 (w8 x.chain)] ++ [.int .u8 (w8 x.from_)] ++ [.int .u64 (w64 x.nonce)] ++ [.int .u64 (w64 x.fee)] ++ [.int .u8 (w8 x.to_)] ++ [.int .u8 (w8 x.dest)] ++ [.int .u8 (w8 x.token)] ++ [.int .u64 (w64 x.amount)] ++ [.int .u8 (w8 x.size)] ++ arr u8v x.payload ++ Message.enc x.msg : List Value)) (by simp [Tx.enc]) (by simp [length_arr, length_arrS, Message.length_enc]) (by simp [length_arr, length_arrS, Message.length_enc])]
  simp [Tx.enc]
theorem Tx.chain_get (x : Tx) : nth x.enc 1 = some (.int .u8 (w8 x.chain)) := get_of (pre := ([.int .u8 (w8 x.kind)] : List Value)) (post := ([.int .u8 (w8 x.from_)] ++ [.int .u64 (w64 x.nonce)] ++ [.int .u64 (w64 x.fee)] ++ [.int .u8 (w8 x.to_)] ++ [.int .u8 (w8 x.dest)] ++ [.int .u8 (w8 x.token)] ++ [.int .u64 (w64 x.amount)] ++ [.int .u8 (w8 x.size)] ++ arr u8v x.payload ++ Message.enc x.msg : List Value)) (by simp [Tx.enc]) (by simp [length_arr, length_arrS, Message.length_enc])
theorem Tx.chain_set (x : Tx) (y : UInt8) : splice x.enc 1 ([.int .u8 (w8 y)]) = ({ x with chain := y } : Tx).enc := by
  rw [splice_of (pre := ([.int .u8 (w8 x.kind)] : List Value)) (mid := [.int .u8 (w8 x.chain)]) (post := ([.int .u8 (w8 x.from_)] ++ [.int .u64 (w64 x.nonce)] ++ [.int .u64 (w64 x.fee)] ++ [.int .u8 (w8 x.to_)] ++ [.int .u8 (w8 x.dest)] ++ [.int .u8 (w8 x.token)] ++ [.int .u64 (w64 x.amount)] ++ [.int .u8 (w8 x.size)] ++ arr u8v x.payload ++ Message.enc x.msg : List Value)) (by simp [Tx.enc]) (by simp [length_arr, length_arrS, Message.length_enc]) (by simp [length_arr, length_arrS, Message.length_enc])]
  simp [Tx.enc]
theorem Tx.from__get (x : Tx) : nth x.enc 2 = some (.int .u8 (w8 x.from_)) := get_of (pre := ([.int .u8 (w8 x.kind)] ++ [.int .u8 (w8 x.chain)] : List Value)) (post := ([.int .u64 (w64 x.nonce)] ++ [.int .u64 (w64 x.fee)] ++ [.int .u8 (w8 x.to_)] ++ [.int .u8 (w8 x.dest)] ++ [.int .u8 (w8 x.token)] ++ [.int .u64 (w64 x.amount)] ++ [.int .u8 (w8 x.size)] ++ arr u8v x.payload ++ Message.enc x.msg : List Value)) (by simp [Tx.enc]) (by simp [length_arr, length_arrS, Message.length_enc])
theorem Tx.from__set (x : Tx) (y : UInt8) : splice x.enc 2 ([.int .u8 (w8 y)]) = ({ x with from_ := y } : Tx).enc := by
  rw [splice_of (pre := ([.int .u8 (w8 x.kind)] ++ [.int .u8 (w8 x.chain)] : List Value)) (mid := [.int .u8 (w8 x.from_)]) (post := ([.int .u64 (w64 x.nonce)] ++ [.int .u64 (w64 x.fee)] ++ [.int .u8 (w8 x.to_)] ++ [.int .u8 (w8 x.dest)] ++ [.int .u8 (w8 x.token)] ++ [.int .u64 (w64 x.amount)] ++ [.int .u8 (w8 x.size)] ++ arr u8v x.payload ++ Message.enc x.msg : List Value)) (by simp [Tx.enc]) (by simp [length_arr, length_arrS, Message.length_enc]) (by simp [length_arr, length_arrS, Message.length_enc])]
  simp [Tx.enc]
theorem Tx.nonce_get (x : Tx) : nth x.enc 3 = some (.int .u64 (w64 x.nonce)) := get_of (pre := ([.int .u8 (w8 x.kind)] ++ [.int .u8 (w8 x.chain)] ++ [.int .u8 (w8 x.from_)] : List Value)) (post := ([.int .u64 (w64 x.fee)] ++ [.int .u8 (w8 x.to_)] ++ [.int .u8 (w8 x.dest)] ++ [.int .u8 (w8 x.token)] ++ [.int .u64 (w64 x.amount)] ++ [.int .u8 (w8 x.size)] ++ arr u8v x.payload ++ Message.enc x.msg : List Value)) (by simp [Tx.enc]) (by simp [length_arr, length_arrS, Message.length_enc])
theorem Tx.nonce_set (x : Tx) (y : UInt64) : splice x.enc 3 ([.int .u64 (w64 y)]) = ({ x with nonce := y } : Tx).enc := by
  rw [splice_of (pre := ([.int .u8 (w8 x.kind)] ++ [.int .u8 (w8 x.chain)] ++ [.int .u8 (w8 x.from_)] : List Value)) (mid := [.int .u64 (w64 x.nonce)]) (post := ([.int .u64 (w64 x.fee)] ++ [.int .u8 (w8 x.to_)] ++ [.int .u8 (w8 x.dest)] ++ [.int .u8 (w8 x.token)] ++ [.int .u64 (w64 x.amount)] ++ [.int .u8 (w8 x.size)] ++ arr u8v x.payload ++ Message.enc x.msg : List Value)) (by simp [Tx.enc]) (by simp [length_arr, length_arrS, Message.length_enc]) (by simp [length_arr, length_arrS, Message.length_enc])]
  simp [Tx.enc]
theorem Tx.fee_get (x : Tx) : nth x.enc 4 = some (.int .u64 (w64 x.fee)) := get_of (pre := ([.int .u8 (w8 x.kind)] ++ [.int .u8 (w8 x.chain)] ++ [.int .u8 (w8 x.from_)] ++ [.int .u64 (w64 x.nonce)] : List Value)) (post := ([.int .u8 (w8 x.to_)] ++ [.int .u8 (w8 x.dest)] ++ [.int .u8 (w8 x.token)] ++ [.int .u64 (w64 x.amount)] ++ [.int .u8 (w8 x.size)] ++ arr u8v x.payload ++ Message.enc x.msg : List Value)) (by simp [Tx.enc]) (by simp [length_arr, length_arrS, Message.length_enc])
theorem Tx.fee_set (x : Tx) (y : UInt64) : splice x.enc 4 ([.int .u64 (w64 y)]) = ({ x with fee := y } : Tx).enc := by
  rw [splice_of (pre := ([.int .u8 (w8 x.kind)] ++ [.int .u8 (w8 x.chain)] ++ [.int .u8 (w8 x.from_)] ++ [.int .u64 (w64 x.nonce)] : List Value)) (mid := [.int .u64 (w64 x.fee)]) (post := ([.int .u8 (w8 x.to_)] ++ [.int .u8 (w8 x.dest)] ++ [.int .u8 (w8 x.token)] ++ [.int .u64 (w64 x.amount)] ++ [.int .u8 (w8 x.size)] ++ arr u8v x.payload ++ Message.enc x.msg : List Value)) (by simp [Tx.enc]) (by simp [length_arr, length_arrS, Message.length_enc]) (by simp [length_arr, length_arrS, Message.length_enc])]
  simp [Tx.enc]
theorem Tx.to__get (x : Tx) : nth x.enc 5 = some (.int .u8 (w8 x.to_)) := get_of (pre := ([.int .u8 (w8 x.kind)] ++ [.int .u8 (w8 x.chain)] ++ [.int .u8 (w8 x.from_)] ++ [.int .u64 (w64 x.nonce)] ++ [.int .u64 (w64 x.fee)] : List Value)) (post := ([.int .u8 (w8 x.dest)] ++ [.int .u8 (w8 x.token)] ++ [.int .u64 (w64 x.amount)] ++ [.int .u8 (w8 x.size)] ++ arr u8v x.payload ++ Message.enc x.msg : List Value)) (by simp [Tx.enc]) (by simp [length_arr, length_arrS, Message.length_enc])
theorem Tx.to__set (x : Tx) (y : UInt8) : splice x.enc 5 ([.int .u8 (w8 y)]) = ({ x with to_ := y } : Tx).enc := by
  rw [splice_of (pre := ([.int .u8 (w8 x.kind)] ++ [.int .u8 (w8 x.chain)] ++ [.int .u8 (w8 x.from_)] ++ [.int .u64 (w64 x.nonce)] ++ [.int .u64 (w64 x.fee)] : List Value)) (mid := [.int .u8 (w8 x.to_)]) (post := ([.int .u8 (w8 x.dest)] ++ [.int .u8 (w8 x.token)] ++ [.int .u64 (w64 x.amount)] ++ [.int .u8 (w8 x.size)] ++ arr u8v x.payload ++ Message.enc x.msg : List Value)) (by simp [Tx.enc]) (by simp [length_arr, length_arrS, Message.length_enc]) (by simp [length_arr, length_arrS, Message.length_enc])]
  simp [Tx.enc]
theorem Tx.dest_get (x : Tx) : nth x.enc 6 = some (.int .u8 (w8 x.dest)) := get_of (pre := ([.int .u8 (w8 x.kind)] ++ [.int .u8 (w8 x.chain)] ++ [.int .u8 (w8 x.from_)] ++ [.int .u64 (w64 x.nonce)] ++ [.int .u64 (w64 x.fee)] ++ [.int .u8 (w8 x.to_)] : List Value)) (post := ([.int .u8 (w8 x.token)] ++ [.int .u64 (w64 x.amount)] ++ [.int .u8 (w8 x.size)] ++ arr u8v x.payload ++ Message.enc x.msg : List Value)) (by simp [Tx.enc]) (by simp [length_arr, length_arrS, Message.length_enc])
theorem Tx.dest_set (x : Tx) (y : UInt8) : splice x.enc 6 ([.int .u8 (w8 y)]) = ({ x with dest := y } : Tx).enc := by
  rw [splice_of (pre := ([.int .u8 (w8 x.kind)] ++ [.int .u8 (w8 x.chain)] ++ [.int .u8 (w8 x.from_)] ++ [.int .u64 (w64 x.nonce)] ++ [.int .u64 (w64 x.fee)] ++ [.int .u8 (w8 x.to_)] : List Value)) (mid := [.int .u8 (w8 x.dest)]) (post := ([.int .u8 (w8 x.token)] ++ [.int .u64 (w64 x.amount)] ++ [.int .u8 (w8 x.size)] ++ arr u8v x.payload ++ Message.enc x.msg : List Value)) (by simp [Tx.enc]) (by simp [length_arr, length_arrS, Message.length_enc]) (by simp [length_arr, length_arrS, Message.length_enc])]
  simp [Tx.enc]
theorem Tx.token_get (x : Tx) : nth x.enc 7 = some (.int .u8 (w8 x.token)) := get_of (pre := ([.int .u8 (w8 x.kind)] ++ [.int .u8 (w8 x.chain)] ++ [.int .u8 (w8 x.from_)] ++ [.int .u64 (w64 x.nonce)] ++ [.int .u64 (w64 x.fee)] ++ [.int .u8 (w8 x.to_)] ++ [.int .u8 (w8 x.dest)] : List Value)) (post := ([.int .u64 (w64 x.amount)] ++ [.int .u8 (w8 x.size)] ++ arr u8v x.payload ++ Message.enc x.msg : List Value)) (by simp [Tx.enc]) (by simp [length_arr, length_arrS, Message.length_enc])
theorem Tx.token_set (x : Tx) (y : UInt8) : splice x.enc 7 ([.int .u8 (w8 y)]) = ({ x with token := y } : Tx).enc := by
  rw [splice_of (pre := ([.int .u8 (w8 x.kind)] ++ [.int .u8 (w8 x.chain)] ++ [.int .u8 (w8 x.from_)] ++ [.int .u64 (w64 x.nonce)] ++ [.int .u64 (w64 x.fee)] ++ [.int .u8 (w8 x.to_)] ++ [.int .u8 (w8 x.dest)] : List Value)) (mid := [.int .u8 (w8 x.token)]) (post := ([.int .u64 (w64 x.amount)] ++ [.int .u8 (w8 x.size)] ++ arr u8v x.payload ++ Message.enc x.msg : List Value)) (by simp [Tx.enc]) (by simp [length_arr, length_arrS, Message.length_enc]) (by simp [length_arr, length_arrS, Message.length_enc])]
  simp [Tx.enc]
theorem Tx.amount_get (x : Tx) : nth x.enc 8 = some (.int .u64 (w64 x.amount)) := get_of (pre := ([.int .u8 (w8 x.kind)] ++ [.int .u8 (w8 x.chain)] ++ [.int .u8 (w8 x.from_)] ++ [.int .u64 (w64 x.nonce)] ++ [.int .u64 (w64 x.fee)] ++ [.int .u8 (w8 x.to_)] ++ [.int .u8 (w8 x.dest)] ++ [.int .u8 (w8 x.token)] : List Value)) (post := ([.int .u8 (w8 x.size)] ++ arr u8v x.payload ++ Message.enc x.msg : List Value)) (by simp [Tx.enc]) (by simp [length_arr, length_arrS, Message.length_enc])
theorem Tx.amount_set (x : Tx) (y : UInt64) : splice x.enc 8 ([.int .u64 (w64 y)]) = ({ x with amount := y } : Tx).enc := by
  rw [splice_of (pre := ([.int .u8 (w8 x.kind)] ++ [.int .u8 (w8 x.chain)] ++ [.int .u8 (w8 x.from_)] ++ [.int .u64 (w64 x.nonce)] ++ [.int .u64 (w64 x.fee)] ++ [.int .u8 (w8 x.to_)] ++ [.int .u8 (w8 x.dest)] ++ [.int .u8 (w8 x.token)] : List Value)) (mid := [.int .u64 (w64 x.amount)]) (post := ([.int .u8 (w8 x.size)] ++ arr u8v x.payload ++ Message.enc x.msg : List Value)) (by simp [Tx.enc]) (by simp [length_arr, length_arrS, Message.length_enc]) (by simp [length_arr, length_arrS, Message.length_enc])]
  simp [Tx.enc]
theorem Tx.size_get (x : Tx) : nth x.enc 9 = some (.int .u8 (w8 x.size)) := get_of (pre := ([.int .u8 (w8 x.kind)] ++ [.int .u8 (w8 x.chain)] ++ [.int .u8 (w8 x.from_)] ++ [.int .u64 (w64 x.nonce)] ++ [.int .u64 (w64 x.fee)] ++ [.int .u8 (w8 x.to_)] ++ [.int .u8 (w8 x.dest)] ++ [.int .u8 (w8 x.token)] ++ [.int .u64 (w64 x.amount)] : List Value)) (post := (arr u8v x.payload ++ Message.enc x.msg : List Value)) (by simp [Tx.enc]) (by simp [length_arr, length_arrS, Message.length_enc])
theorem Tx.size_set (x : Tx) (y : UInt8) : splice x.enc 9 ([.int .u8 (w8 y)]) = ({ x with size := y } : Tx).enc := by
  rw [splice_of (pre := ([.int .u8 (w8 x.kind)] ++ [.int .u8 (w8 x.chain)] ++ [.int .u8 (w8 x.from_)] ++ [.int .u64 (w64 x.nonce)] ++ [.int .u64 (w64 x.fee)] ++ [.int .u8 (w8 x.to_)] ++ [.int .u8 (w8 x.dest)] ++ [.int .u8 (w8 x.token)] ++ [.int .u64 (w64 x.amount)] : List Value)) (mid := [.int .u8 (w8 x.size)]) (post := (arr u8v x.payload ++ Message.enc x.msg : List Value)) (by simp [Tx.enc]) (by simp [length_arr, length_arrS, Message.length_enc]) (by simp [length_arr, length_arrS, Message.length_enc])]
  simp [Tx.enc]
theorem Tx.payload_get (x : Tx) : seg x.enc 10 32 = arr u8v x.payload := part_of (pre := ([.int .u8 (w8 x.kind)] ++ [.int .u8 (w8 x.chain)] ++ [.int .u8 (w8 x.from_)] ++ [.int .u64 (w64 x.nonce)] ++ [.int .u64 (w64 x.fee)] ++ [.int .u8 (w8 x.to_)] ++ [.int .u8 (w8 x.dest)] ++ [.int .u8 (w8 x.token)] ++ [.int .u64 (w64 x.amount)] ++ [.int .u8 (w8 x.size)] : List Value)) (post := (Message.enc x.msg : List Value)) (by simp [Tx.enc]) (by simp [length_arr, length_arrS, Message.length_enc]) (by simp [length_arr, length_arrS, Message.length_enc])
theorem Tx.payload_set (x : Tx) (y : (Vector UInt8 32)) : splice x.enc 10 (arr u8v y) = ({ x with payload := y } : Tx).enc := by
  rw [splice_of (pre := ([.int .u8 (w8 x.kind)] ++ [.int .u8 (w8 x.chain)] ++ [.int .u8 (w8 x.from_)] ++ [.int .u64 (w64 x.nonce)] ++ [.int .u64 (w64 x.fee)] ++ [.int .u8 (w8 x.to_)] ++ [.int .u8 (w8 x.dest)] ++ [.int .u8 (w8 x.token)] ++ [.int .u64 (w64 x.amount)] ++ [.int .u8 (w8 x.size)] : List Value)) (mid := arr u8v x.payload) (post := (Message.enc x.msg : List Value)) (by simp [Tx.enc]) (by simp [length_arr, length_arrS, Message.length_enc]) (by simp [length_arr, length_arrS, Message.length_enc])]
  simp [Tx.enc]
theorem Tx.payload_at (x : Tx) (i : Nat) (h : i < 32) : nth x.enc (10 + i) = some (.int .u8 (w8 x.payload[i])) := by
  exact (get_sub (Tx.payload_get x) (by simp [length_arr, length_arrS, Message.length_enc]; omega)).trans (arr_at _ _ h)
theorem Tx.payload_put (x : Tx) (i : Nat) (y : UInt8) (h : i < 32) : splice x.enc (10 + i) [.int .u8 (w8 y)] = ({ x with payload := x.payload.set i y h } : Tx).enc := by
  rw [splice_sub (Tx.payload_get x) (by simp [Tx.length_enc]) (by simp; omega)]
  rw [show ([.int .u8 (w8 y)] : List Value) = [u8v y] from rfl, arr_put _ _ _ h, Tx.payload_set]
theorem Tx.msg_get (x : Tx) : seg x.enc 42 41 = Message.enc x.msg := part_of (pre := ([.int .u8 (w8 x.kind)] ++ [.int .u8 (w8 x.chain)] ++ [.int .u8 (w8 x.from_)] ++ [.int .u64 (w64 x.nonce)] ++ [.int .u64 (w64 x.fee)] ++ [.int .u8 (w8 x.to_)] ++ [.int .u8 (w8 x.dest)] ++ [.int .u8 (w8 x.token)] ++ [.int .u64 (w64 x.amount)] ++ [.int .u8 (w8 x.size)] ++ arr u8v x.payload : List Value)) (post := ([] : List Value)) (by simp [Tx.enc]) (by simp [length_arr, length_arrS, Message.length_enc]) (by simp [length_arr, length_arrS, Message.length_enc])
theorem Tx.msg_set (x : Tx) (y : Message) : splice x.enc 42 (Message.enc y) = ({ x with msg := y } : Tx).enc := by
  rw [splice_of (pre := ([.int .u8 (w8 x.kind)] ++ [.int .u8 (w8 x.chain)] ++ [.int .u8 (w8 x.from_)] ++ [.int .u64 (w64 x.nonce)] ++ [.int .u64 (w64 x.fee)] ++ [.int .u8 (w8 x.to_)] ++ [.int .u8 (w8 x.dest)] ++ [.int .u8 (w8 x.token)] ++ [.int .u64 (w64 x.amount)] ++ [.int .u8 (w8 x.size)] ++ arr u8v x.payload : List Value)) (mid := Message.enc x.msg) (post := ([] : List Value)) (by simp [Tx.enc]) (by simp [length_arr, length_arrS, Message.length_enc]) (by simp [length_arr, length_arrS, Message.length_enc])]
  simp [Tx.enc]
theorem Tx.msg_kind_get (x : Tx) : nth x.enc 42 = some (.int .u8 (w8 x.msg.kind)) :=
  (get_sub (a := 42) (j := 0) (Tx.msg_get x) (by simp [Message.length_enc])).trans (Message.kind_get _)
theorem Tx.msg_kind_set (x : Tx) (y : UInt8) : splice x.enc 42 ([.int .u8 (w8 y)]) = ({ x with msg := { x.msg with kind := y } } : Tx).enc := by
  rw [show 42 = 42 + 0 from rfl, splice_sub (Tx.msg_get x) (by simp [Tx.length_enc]) (by simp [length_arr, length_arrS, Message.length_enc]), Message.kind_set, Tx.msg_set]
theorem Tx.msg_from__get (x : Tx) : nth x.enc 43 = some (.int .u8 (w8 x.msg.from_)) :=
  (get_sub (a := 42) (j := 1) (Tx.msg_get x) (by simp [Message.length_enc])).trans (Message.from__get _)
theorem Tx.msg_from__set (x : Tx) (y : UInt8) : splice x.enc 43 ([.int .u8 (w8 y)]) = ({ x with msg := { x.msg with from_ := y } } : Tx).enc := by
  rw [show 43 = 42 + 1 from rfl, splice_sub (Tx.msg_get x) (by simp [Tx.length_enc]) (by simp [length_arr, length_arrS, Message.length_enc]), Message.from__set, Tx.msg_set]
theorem Tx.msg_to__get (x : Tx) : nth x.enc 44 = some (.int .u8 (w8 x.msg.to_)) :=
  (get_sub (a := 42) (j := 2) (Tx.msg_get x) (by simp [Message.length_enc])).trans (Message.to__get _)
theorem Tx.msg_to__set (x : Tx) (y : UInt8) : splice x.enc 44 ([.int .u8 (w8 y)]) = ({ x with msg := { x.msg with to_ := y } } : Tx).enc := by
  rw [show 44 = 42 + 2 from rfl, splice_sub (Tx.msg_get x) (by simp [Tx.length_enc]) (by simp [length_arr, length_arrS, Message.length_enc]), Message.to__set, Tx.msg_set]
theorem Tx.msg_sender_get (x : Tx) : nth x.enc 45 = some (.int .u8 (w8 x.msg.sender)) :=
  (get_sub (a := 42) (j := 3) (Tx.msg_get x) (by simp [Message.length_enc])).trans (Message.sender_get _)
theorem Tx.msg_sender_set (x : Tx) (y : UInt8) : splice x.enc 45 ([.int .u8 (w8 y)]) = ({ x with msg := { x.msg with sender := y } } : Tx).enc := by
  rw [show 45 = 42 + 3 from rfl, splice_sub (Tx.msg_get x) (by simp [Tx.length_enc]) (by simp [length_arr, length_arrS, Message.length_enc]), Message.sender_set, Tx.msg_set]
theorem Tx.msg_receiver_get (x : Tx) : nth x.enc 46 = some (.int .u8 (w8 x.msg.receiver)) :=
  (get_sub (a := 42) (j := 4) (Tx.msg_get x) (by simp [Message.length_enc])).trans (Message.receiver_get _)
theorem Tx.msg_receiver_set (x : Tx) (y : UInt8) : splice x.enc 46 ([.int .u8 (w8 y)]) = ({ x with msg := { x.msg with receiver := y } } : Tx).enc := by
  rw [show 46 = 42 + 4 from rfl, splice_sub (Tx.msg_get x) (by simp [Tx.length_enc]) (by simp [length_arr, length_arrS, Message.length_enc]), Message.receiver_set, Tx.msg_set]
theorem Tx.msg_seq_get (x : Tx) : nth x.enc 47 = some (.int .u64 (w64 x.msg.seq)) :=
  (get_sub (a := 42) (j := 5) (Tx.msg_get x) (by simp [Message.length_enc])).trans (Message.seq_get _)
theorem Tx.msg_seq_set (x : Tx) (y : UInt64) : splice x.enc 47 ([.int .u64 (w64 y)]) = ({ x with msg := { x.msg with seq := y } } : Tx).enc := by
  rw [show 47 = 42 + 5 from rfl, splice_sub (Tx.msg_get x) (by simp [Tx.length_enc]) (by simp [length_arr, length_arrS, Message.length_enc]), Message.seq_set, Tx.msg_set]
theorem Tx.msg_token_get (x : Tx) : nth x.enc 48 = some (.int .u8 (w8 x.msg.token)) :=
  (get_sub (a := 42) (j := 6) (Tx.msg_get x) (by simp [Message.length_enc])).trans (Message.token_get _)
theorem Tx.msg_token_set (x : Tx) (y : UInt8) : splice x.enc 48 ([.int .u8 (w8 y)]) = ({ x with msg := { x.msg with token := y } } : Tx).enc := by
  rw [show 48 = 42 + 6 from rfl, splice_sub (Tx.msg_get x) (by simp [Tx.length_enc]) (by simp [length_arr, length_arrS, Message.length_enc]), Message.token_set, Tx.msg_set]
theorem Tx.msg_amount_get (x : Tx) : nth x.enc 49 = some (.int .u64 (w64 x.msg.amount)) :=
  (get_sub (a := 42) (j := 7) (Tx.msg_get x) (by simp [Message.length_enc])).trans (Message.amount_get _)
theorem Tx.msg_amount_set (x : Tx) (y : UInt64) : splice x.enc 49 ([.int .u64 (w64 y)]) = ({ x with msg := { x.msg with amount := y } } : Tx).enc := by
  rw [show 49 = 42 + 7 from rfl, splice_sub (Tx.msg_get x) (by simp [Tx.length_enc]) (by simp [length_arr, length_arrS, Message.length_enc]), Message.amount_set, Tx.msg_set]
theorem Tx.msg_size_get (x : Tx) : nth x.enc 50 = some (.int .u8 (w8 x.msg.size)) :=
  (get_sub (a := 42) (j := 8) (Tx.msg_get x) (by simp [Message.length_enc])).trans (Message.size_get _)
theorem Tx.msg_size_set (x : Tx) (y : UInt8) : splice x.enc 50 ([.int .u8 (w8 y)]) = ({ x with msg := { x.msg with size := y } } : Tx).enc := by
  rw [show 50 = 42 + 8 from rfl, splice_sub (Tx.msg_get x) (by simp [Tx.length_enc]) (by simp [length_arr, length_arrS, Message.length_enc]), Message.size_set, Tx.msg_set]
theorem Tx.msg_payload_get (x : Tx) : seg x.enc 51 32 = arr u8v x.msg.payload :=
  (part_sub (a := 42) (j := 9) (Tx.msg_get x) (by simp [Message.length_enc])).trans (Message.payload_get _)
theorem Tx.msg_payload_set (x : Tx) (y : (Vector UInt8 32)) : splice x.enc 51 (arr u8v y) = ({ x with msg := { x.msg with payload := y } } : Tx).enc := by
  rw [show 51 = 42 + 9 from rfl, splice_sub (Tx.msg_get x) (by simp [Tx.length_enc]) (by simp [length_arr, length_arrS, Message.length_enc]), Message.payload_set, Tx.msg_set]

structure GOp where
  kind : Int
  tx : Tx
  txs : Sl
  gas : UInt64
  acct : UInt8
  token : UInt8
  chain : UInt8
  seq : UInt64
def GOp.zero : GOp := ⟨0, Tx.zero, ⟨none, 0, 0⟩, 0, 0, 0, 0, 0⟩
def GOp.enc (x : GOp) : List Value :=
  [.int .i64 x.kind] ++ (Tx.enc x.tx ++ ([Sl.val x.txs] ++ ([.int .u64 (w64 x.gas)] ++ ([.int .u8 (w8 x.acct)] ++ ([.int .u8 (w8 x.token)] ++ ([.int .u8 (w8 x.chain)] ++ ([.int .u64 (w64 x.seq)])))))))
theorem GOp.length_enc (x : GOp) : x.enc.length = 90 := by simp [GOp.enc, length_arr, length_arrS, Message.length_enc, Tx.length_enc]
theorem GOp.one_enc (x : GOp) : x.enc.all (fun v => v.oneCell') = true := by simp only [GOp.enc, List.all_append, List.all_cons, List.all_nil, oneC_int, oneC_bool, oneC_string, oneC_pointer, oneC_slice, Bool.and_true, Bool.true_and, implies_true, one_arr_u8, one_arr_u32, one_arr_u64, one_arr_i64, one_arr_bool, one_arr_str, one_arr_ptr, one_arr_sl, one_arrS, one_u8, one_u32, one_u64, one_i64, one_bool, one_str, one_sl, one_ptr, Message.one_enc, Tx.one_enc]
theorem GOp.ok_enc (x : GOp) : okCells 90 x.enc = true := ok_mk x.length_enc x.one_enc
theorem GOp.all_get (x : GOp) : seg x.enc 0 90 = x.enc := seg_all _ _ x.length_enc
theorem GOp.all_set (x y : GOp) : splice x.enc 0 y.enc = y.enc := splice_all _ _ (by rw [x.length_enc, y.length_enc])
theorem GOp.kind_get (x : GOp) : nth x.enc 0 = some (.int .i64 x.kind) := get_of (pre := ([] : List Value)) (post := (Tx.enc x.tx ++ [Sl.val x.txs] ++ [.int .u64 (w64 x.gas)] ++ [.int .u8 (w8 x.acct)] ++ [.int .u8 (w8 x.token)] ++ [.int .u8 (w8 x.chain)] ++ [.int .u64 (w64 x.seq)] : List Value)) (by simp [GOp.enc]) (by simp [length_arr, length_arrS, Message.length_enc, Tx.length_enc])
theorem GOp.kind_set (x : GOp) (y : Int) : splice x.enc 0 ([.int .i64 y]) = ({ x with kind := y } : GOp).enc := by
  rw [splice_of (pre := ([] : List Value)) (mid := [.int .i64 x.kind]) (post := (Tx.enc x.tx ++ [Sl.val x.txs] ++ [.int .u64 (w64 x.gas)] ++ [.int .u8 (w8 x.acct)] ++ [.int .u8 (w8 x.token)] ++ [.int .u8 (w8 x.chain)] ++ [.int .u64 (w64 x.seq)] : List Value)) (by simp [GOp.enc]) (by simp [length_arr, length_arrS, Message.length_enc, Tx.length_enc]) (by simp [length_arr, length_arrS, Message.length_enc, Tx.length_enc])]
  simp [GOp.enc]
theorem GOp.tx_get (x : GOp) : seg x.enc 1 83 = Tx.enc x.tx := part_of (pre := ([.int .i64 x.kind] : List Value)) (post := ([Sl.val x.txs] ++ [.int .u64 (w64 x.gas)] ++ [.int .u8 (w8 x.acct)] ++ [.int .u8 (w8 x.token)] ++ [.int .u8 (w8 x.chain)] ++ [.int .u64 (w64 x.seq)] : List Value)) (by simp [GOp.enc]) (by simp [length_arr, length_arrS, Message.length_enc, Tx.length_enc]) (by simp [length_arr, length_arrS, Message.length_enc, Tx.length_enc])
theorem GOp.tx_set (x : GOp) (y : Tx) : splice x.enc 1 (Tx.enc y) = ({ x with tx := y } : GOp).enc := by
  rw [splice_of (pre := ([.int .i64 x.kind] : List Value)) (mid := Tx.enc x.tx) (post := ([Sl.val x.txs] ++ [.int .u64 (w64 x.gas)] ++ [.int .u8 (w8 x.acct)] ++ [.int .u8 (w8 x.token)] ++ [.int .u8 (w8 x.chain)] ++ [.int .u64 (w64 x.seq)] : List Value)) (by simp [GOp.enc]) (by simp [length_arr, length_arrS, Message.length_enc, Tx.length_enc]) (by simp [length_arr, length_arrS, Message.length_enc, Tx.length_enc])]
  simp [GOp.enc]
theorem GOp.txs_get (x : GOp) : nth x.enc 84 = some (Sl.val x.txs) := get_of (pre := ([.int .i64 x.kind] ++ Tx.enc x.tx : List Value)) (post := ([.int .u64 (w64 x.gas)] ++ [.int .u8 (w8 x.acct)] ++ [.int .u8 (w8 x.token)] ++ [.int .u8 (w8 x.chain)] ++ [.int .u64 (w64 x.seq)] : List Value)) (by simp [GOp.enc]) (by simp [length_arr, length_arrS, Message.length_enc, Tx.length_enc])
theorem GOp.txs_set (x : GOp) (y : Sl) : splice x.enc 84 ([Sl.val y]) = ({ x with txs := y } : GOp).enc := by
  rw [splice_of (pre := ([.int .i64 x.kind] ++ Tx.enc x.tx : List Value)) (mid := [Sl.val x.txs]) (post := ([.int .u64 (w64 x.gas)] ++ [.int .u8 (w8 x.acct)] ++ [.int .u8 (w8 x.token)] ++ [.int .u8 (w8 x.chain)] ++ [.int .u64 (w64 x.seq)] : List Value)) (by simp [GOp.enc]) (by simp [length_arr, length_arrS, Message.length_enc, Tx.length_enc]) (by simp [length_arr, length_arrS, Message.length_enc, Tx.length_enc])]
  simp [GOp.enc]
theorem GOp.gas_get (x : GOp) : nth x.enc 85 = some (.int .u64 (w64 x.gas)) := get_of (pre := ([.int .i64 x.kind] ++ Tx.enc x.tx ++ [Sl.val x.txs] : List Value)) (post := ([.int .u8 (w8 x.acct)] ++ [.int .u8 (w8 x.token)] ++ [.int .u8 (w8 x.chain)] ++ [.int .u64 (w64 x.seq)] : List Value)) (by simp [GOp.enc]) (by simp [length_arr, length_arrS, Message.length_enc, Tx.length_enc])
theorem GOp.gas_set (x : GOp) (y : UInt64) : splice x.enc 85 ([.int .u64 (w64 y)]) = ({ x with gas := y } : GOp).enc := by
  rw [splice_of (pre := ([.int .i64 x.kind] ++ Tx.enc x.tx ++ [Sl.val x.txs] : List Value)) (mid := [.int .u64 (w64 x.gas)]) (post := ([.int .u8 (w8 x.acct)] ++ [.int .u8 (w8 x.token)] ++ [.int .u8 (w8 x.chain)] ++ [.int .u64 (w64 x.seq)] : List Value)) (by simp [GOp.enc]) (by simp [length_arr, length_arrS, Message.length_enc, Tx.length_enc]) (by simp [length_arr, length_arrS, Message.length_enc, Tx.length_enc])]
  simp [GOp.enc]
theorem GOp.acct_get (x : GOp) : nth x.enc 86 = some (.int .u8 (w8 x.acct)) := get_of (pre := ([.int .i64 x.kind] ++ Tx.enc x.tx ++ [Sl.val x.txs] ++ [.int .u64 (w64 x.gas)] : List Value)) (post := ([.int .u8 (w8 x.token)] ++ [.int .u8 (w8 x.chain)] ++ [.int .u64 (w64 x.seq)] : List Value)) (by simp [GOp.enc]) (by simp [length_arr, length_arrS, Message.length_enc, Tx.length_enc])
theorem GOp.acct_set (x : GOp) (y : UInt8) : splice x.enc 86 ([.int .u8 (w8 y)]) = ({ x with acct := y } : GOp).enc := by
  rw [splice_of (pre := ([.int .i64 x.kind] ++ Tx.enc x.tx ++ [Sl.val x.txs] ++ [.int .u64 (w64 x.gas)] : List Value)) (mid := [.int .u8 (w8 x.acct)]) (post := ([.int .u8 (w8 x.token)] ++ [.int .u8 (w8 x.chain)] ++ [.int .u64 (w64 x.seq)] : List Value)) (by simp [GOp.enc]) (by simp [length_arr, length_arrS, Message.length_enc, Tx.length_enc]) (by simp [length_arr, length_arrS, Message.length_enc, Tx.length_enc])]
  simp [GOp.enc]
theorem GOp.token_get (x : GOp) : nth x.enc 87 = some (.int .u8 (w8 x.token)) := get_of (pre := ([.int .i64 x.kind] ++ Tx.enc x.tx ++ [Sl.val x.txs] ++ [.int .u64 (w64 x.gas)] ++ [.int .u8 (w8 x.acct)] : List Value)) (post := ([.int .u8 (w8 x.chain)] ++ [.int .u64 (w64 x.seq)] : List Value)) (by simp [GOp.enc]) (by simp [length_arr, length_arrS, Message.length_enc, Tx.length_enc])
theorem GOp.token_set (x : GOp) (y : UInt8) : splice x.enc 87 ([.int .u8 (w8 y)]) = ({ x with token := y } : GOp).enc := by
  rw [splice_of (pre := ([.int .i64 x.kind] ++ Tx.enc x.tx ++ [Sl.val x.txs] ++ [.int .u64 (w64 x.gas)] ++ [.int .u8 (w8 x.acct)] : List Value)) (mid := [.int .u8 (w8 x.token)]) (post := ([.int .u8 (w8 x.chain)] ++ [.int .u64 (w64 x.seq)] : List Value)) (by simp [GOp.enc]) (by simp [length_arr, length_arrS, Message.length_enc, Tx.length_enc]) (by simp [length_arr, length_arrS, Message.length_enc, Tx.length_enc])]
  simp [GOp.enc]
theorem GOp.chain_get (x : GOp) : nth x.enc 88 = some (.int .u8 (w8 x.chain)) := get_of (pre := ([.int .i64 x.kind] ++ Tx.enc x.tx ++ [Sl.val x.txs] ++ [.int .u64 (w64 x.gas)] ++ [.int .u8 (w8 x.acct)] ++ [.int .u8 (w8 x.token)] : List Value)) (post := ([.int .u64 (w64 x.seq)] : List Value)) (by simp [GOp.enc]) (by simp [length_arr, length_arrS, Message.length_enc, Tx.length_enc])
theorem GOp.chain_set (x : GOp) (y : UInt8) : splice x.enc 88 ([.int .u8 (w8 y)]) = ({ x with chain := y } : GOp).enc := by
  rw [splice_of (pre := ([.int .i64 x.kind] ++ Tx.enc x.tx ++ [Sl.val x.txs] ++ [.int .u64 (w64 x.gas)] ++ [.int .u8 (w8 x.acct)] ++ [.int .u8 (w8 x.token)] : List Value)) (mid := [.int .u8 (w8 x.chain)]) (post := ([.int .u64 (w64 x.seq)] : List Value)) (by simp [GOp.enc]) (by simp [length_arr, length_arrS, Message.length_enc, Tx.length_enc]) (by simp [length_arr, length_arrS, Message.length_enc, Tx.length_enc])]
  simp [GOp.enc]
theorem GOp.seq_get (x : GOp) : nth x.enc 89 = some (.int .u64 (w64 x.seq)) := get_of (pre := ([.int .i64 x.kind] ++ Tx.enc x.tx ++ [Sl.val x.txs] ++ [.int .u64 (w64 x.gas)] ++ [.int .u8 (w8 x.acct)] ++ [.int .u8 (w8 x.token)] ++ [.int .u8 (w8 x.chain)] : List Value)) (post := ([] : List Value)) (by simp [GOp.enc]) (by simp [length_arr, length_arrS, Message.length_enc, Tx.length_enc])
theorem GOp.seq_set (x : GOp) (y : UInt64) : splice x.enc 89 ([.int .u64 (w64 y)]) = ({ x with seq := y } : GOp).enc := by
  rw [splice_of (pre := ([.int .i64 x.kind] ++ Tx.enc x.tx ++ [Sl.val x.txs] ++ [.int .u64 (w64 x.gas)] ++ [.int .u8 (w8 x.acct)] ++ [.int .u8 (w8 x.token)] ++ [.int .u8 (w8 x.chain)] : List Value)) (mid := [.int .u64 (w64 x.seq)]) (post := ([] : List Value)) (by simp [GOp.enc]) (by simp [length_arr, length_arrS, Message.length_enc, Tx.length_enc]) (by simp [length_arr, length_arrS, Message.length_enc, Tx.length_enc])]
  simp [GOp.enc]
theorem GOp.tx_kind_get (x : GOp) : nth x.enc 1 = some (.int .u8 (w8 x.tx.kind)) :=
  (get_sub (a := 1) (j := 0) (GOp.tx_get x) (by simp [Tx.length_enc])).trans (Tx.kind_get _)
theorem GOp.tx_kind_set (x : GOp) (y : UInt8) : splice x.enc 1 ([.int .u8 (w8 y)]) = ({ x with tx := { x.tx with kind := y } } : GOp).enc := by
  rw [show 1 = 1 + 0 from rfl, splice_sub (GOp.tx_get x) (by simp [GOp.length_enc]) (by simp [length_arr, length_arrS, Message.length_enc, Tx.length_enc]), Tx.kind_set, GOp.tx_set]
theorem GOp.tx_chain_get (x : GOp) : nth x.enc 2 = some (.int .u8 (w8 x.tx.chain)) :=
  (get_sub (a := 1) (j := 1) (GOp.tx_get x) (by simp [Tx.length_enc])).trans (Tx.chain_get _)
theorem GOp.tx_chain_set (x : GOp) (y : UInt8) : splice x.enc 2 ([.int .u8 (w8 y)]) = ({ x with tx := { x.tx with chain := y } } : GOp).enc := by
  rw [show 2 = 1 + 1 from rfl, splice_sub (GOp.tx_get x) (by simp [GOp.length_enc]) (by simp [length_arr, length_arrS, Message.length_enc, Tx.length_enc]), Tx.chain_set, GOp.tx_set]
theorem GOp.tx_from__get (x : GOp) : nth x.enc 3 = some (.int .u8 (w8 x.tx.from_)) :=
  (get_sub (a := 1) (j := 2) (GOp.tx_get x) (by simp [Tx.length_enc])).trans (Tx.from__get _)
theorem GOp.tx_from__set (x : GOp) (y : UInt8) : splice x.enc 3 ([.int .u8 (w8 y)]) = ({ x with tx := { x.tx with from_ := y } } : GOp).enc := by
  rw [show 3 = 1 + 2 from rfl, splice_sub (GOp.tx_get x) (by simp [GOp.length_enc]) (by simp [length_arr, length_arrS, Message.length_enc, Tx.length_enc]), Tx.from__set, GOp.tx_set]
theorem GOp.tx_nonce_get (x : GOp) : nth x.enc 4 = some (.int .u64 (w64 x.tx.nonce)) :=
  (get_sub (a := 1) (j := 3) (GOp.tx_get x) (by simp [Tx.length_enc])).trans (Tx.nonce_get _)
theorem GOp.tx_nonce_set (x : GOp) (y : UInt64) : splice x.enc 4 ([.int .u64 (w64 y)]) = ({ x with tx := { x.tx with nonce := y } } : GOp).enc := by
  rw [show 4 = 1 + 3 from rfl, splice_sub (GOp.tx_get x) (by simp [GOp.length_enc]) (by simp [length_arr, length_arrS, Message.length_enc, Tx.length_enc]), Tx.nonce_set, GOp.tx_set]
theorem GOp.tx_fee_get (x : GOp) : nth x.enc 5 = some (.int .u64 (w64 x.tx.fee)) :=
  (get_sub (a := 1) (j := 4) (GOp.tx_get x) (by simp [Tx.length_enc])).trans (Tx.fee_get _)
theorem GOp.tx_fee_set (x : GOp) (y : UInt64) : splice x.enc 5 ([.int .u64 (w64 y)]) = ({ x with tx := { x.tx with fee := y } } : GOp).enc := by
  rw [show 5 = 1 + 4 from rfl, splice_sub (GOp.tx_get x) (by simp [GOp.length_enc]) (by simp [length_arr, length_arrS, Message.length_enc, Tx.length_enc]), Tx.fee_set, GOp.tx_set]
theorem GOp.tx_to__get (x : GOp) : nth x.enc 6 = some (.int .u8 (w8 x.tx.to_)) :=
  (get_sub (a := 1) (j := 5) (GOp.tx_get x) (by simp [Tx.length_enc])).trans (Tx.to__get _)
theorem GOp.tx_to__set (x : GOp) (y : UInt8) : splice x.enc 6 ([.int .u8 (w8 y)]) = ({ x with tx := { x.tx with to_ := y } } : GOp).enc := by
  rw [show 6 = 1 + 5 from rfl, splice_sub (GOp.tx_get x) (by simp [GOp.length_enc]) (by simp [length_arr, length_arrS, Message.length_enc, Tx.length_enc]), Tx.to__set, GOp.tx_set]
theorem GOp.tx_dest_get (x : GOp) : nth x.enc 7 = some (.int .u8 (w8 x.tx.dest)) :=
  (get_sub (a := 1) (j := 6) (GOp.tx_get x) (by simp [Tx.length_enc])).trans (Tx.dest_get _)
theorem GOp.tx_dest_set (x : GOp) (y : UInt8) : splice x.enc 7 ([.int .u8 (w8 y)]) = ({ x with tx := { x.tx with dest := y } } : GOp).enc := by
  rw [show 7 = 1 + 6 from rfl, splice_sub (GOp.tx_get x) (by simp [GOp.length_enc]) (by simp [length_arr, length_arrS, Message.length_enc, Tx.length_enc]), Tx.dest_set, GOp.tx_set]
theorem GOp.tx_token_get (x : GOp) : nth x.enc 8 = some (.int .u8 (w8 x.tx.token)) :=
  (get_sub (a := 1) (j := 7) (GOp.tx_get x) (by simp [Tx.length_enc])).trans (Tx.token_get _)
theorem GOp.tx_token_set (x : GOp) (y : UInt8) : splice x.enc 8 ([.int .u8 (w8 y)]) = ({ x with tx := { x.tx with token := y } } : GOp).enc := by
  rw [show 8 = 1 + 7 from rfl, splice_sub (GOp.tx_get x) (by simp [GOp.length_enc]) (by simp [length_arr, length_arrS, Message.length_enc, Tx.length_enc]), Tx.token_set, GOp.tx_set]
theorem GOp.tx_amount_get (x : GOp) : nth x.enc 9 = some (.int .u64 (w64 x.tx.amount)) :=
  (get_sub (a := 1) (j := 8) (GOp.tx_get x) (by simp [Tx.length_enc])).trans (Tx.amount_get _)
theorem GOp.tx_amount_set (x : GOp) (y : UInt64) : splice x.enc 9 ([.int .u64 (w64 y)]) = ({ x with tx := { x.tx with amount := y } } : GOp).enc := by
  rw [show 9 = 1 + 8 from rfl, splice_sub (GOp.tx_get x) (by simp [GOp.length_enc]) (by simp [length_arr, length_arrS, Message.length_enc, Tx.length_enc]), Tx.amount_set, GOp.tx_set]
theorem GOp.tx_size_get (x : GOp) : nth x.enc 10 = some (.int .u8 (w8 x.tx.size)) :=
  (get_sub (a := 1) (j := 9) (GOp.tx_get x) (by simp [Tx.length_enc])).trans (Tx.size_get _)
theorem GOp.tx_size_set (x : GOp) (y : UInt8) : splice x.enc 10 ([.int .u8 (w8 y)]) = ({ x with tx := { x.tx with size := y } } : GOp).enc := by
  rw [show 10 = 1 + 9 from rfl, splice_sub (GOp.tx_get x) (by simp [GOp.length_enc]) (by simp [length_arr, length_arrS, Message.length_enc, Tx.length_enc]), Tx.size_set, GOp.tx_set]
theorem GOp.tx_payload_get (x : GOp) : seg x.enc 11 32 = arr u8v x.tx.payload :=
  (part_sub (a := 1) (j := 10) (GOp.tx_get x) (by simp [Tx.length_enc])).trans (Tx.payload_get _)
theorem GOp.tx_payload_set (x : GOp) (y : (Vector UInt8 32)) : splice x.enc 11 (arr u8v y) = ({ x with tx := { x.tx with payload := y } } : GOp).enc := by
  rw [show 11 = 1 + 10 from rfl, splice_sub (GOp.tx_get x) (by simp [GOp.length_enc]) (by simp [length_arr, length_arrS, Message.length_enc, Tx.length_enc]), Tx.payload_set, GOp.tx_set]
theorem GOp.tx_msg_get (x : GOp) : seg x.enc 43 41 = Message.enc x.tx.msg :=
  (part_sub (a := 1) (j := 42) (GOp.tx_get x) (by simp [Tx.length_enc])).trans (Tx.msg_get _)
theorem GOp.tx_msg_set (x : GOp) (y : Message) : splice x.enc 43 (Message.enc y) = ({ x with tx := { x.tx with msg := y } } : GOp).enc := by
  rw [show 43 = 1 + 42 from rfl, splice_sub (GOp.tx_get x) (by simp [GOp.length_enc]) (by simp [length_arr, length_arrS, Message.length_enc, Tx.length_enc]), Tx.msg_set, GOp.tx_set]
theorem GOp.tx_msg_kind_get (x : GOp) : nth x.enc 43 = some (.int .u8 (w8 x.tx.msg.kind)) :=
  (get_sub (a := 1) (j := 42) (GOp.tx_get x) (by simp [Tx.length_enc])).trans (Tx.msg_kind_get _)
theorem GOp.tx_msg_kind_set (x : GOp) (y : UInt8) : splice x.enc 43 ([.int .u8 (w8 y)]) = ({ x with tx := { x.tx with msg := { x.tx.msg with kind := y } } } : GOp).enc := by
  rw [show 43 = 1 + 42 from rfl, splice_sub (GOp.tx_get x) (by simp [GOp.length_enc]) (by simp [length_arr, length_arrS, Message.length_enc, Tx.length_enc]), Tx.msg_kind_set, GOp.tx_set]
theorem GOp.tx_msg_from__get (x : GOp) : nth x.enc 44 = some (.int .u8 (w8 x.tx.msg.from_)) :=
  (get_sub (a := 1) (j := 43) (GOp.tx_get x) (by simp [Tx.length_enc])).trans (Tx.msg_from__get _)
theorem GOp.tx_msg_from__set (x : GOp) (y : UInt8) : splice x.enc 44 ([.int .u8 (w8 y)]) = ({ x with tx := { x.tx with msg := { x.tx.msg with from_ := y } } } : GOp).enc := by
  rw [show 44 = 1 + 43 from rfl, splice_sub (GOp.tx_get x) (by simp [GOp.length_enc]) (by simp [length_arr, length_arrS, Message.length_enc, Tx.length_enc]), Tx.msg_from__set, GOp.tx_set]
theorem GOp.tx_msg_to__get (x : GOp) : nth x.enc 45 = some (.int .u8 (w8 x.tx.msg.to_)) :=
  (get_sub (a := 1) (j := 44) (GOp.tx_get x) (by simp [Tx.length_enc])).trans (Tx.msg_to__get _)
theorem GOp.tx_msg_to__set (x : GOp) (y : UInt8) : splice x.enc 45 ([.int .u8 (w8 y)]) = ({ x with tx := { x.tx with msg := { x.tx.msg with to_ := y } } } : GOp).enc := by
  rw [show 45 = 1 + 44 from rfl, splice_sub (GOp.tx_get x) (by simp [GOp.length_enc]) (by simp [length_arr, length_arrS, Message.length_enc, Tx.length_enc]), Tx.msg_to__set, GOp.tx_set]
theorem GOp.tx_msg_sender_get (x : GOp) : nth x.enc 46 = some (.int .u8 (w8 x.tx.msg.sender)) :=
  (get_sub (a := 1) (j := 45) (GOp.tx_get x) (by simp [Tx.length_enc])).trans (Tx.msg_sender_get _)
theorem GOp.tx_msg_sender_set (x : GOp) (y : UInt8) : splice x.enc 46 ([.int .u8 (w8 y)]) = ({ x with tx := { x.tx with msg := { x.tx.msg with sender := y } } } : GOp).enc := by
  rw [show 46 = 1 + 45 from rfl, splice_sub (GOp.tx_get x) (by simp [GOp.length_enc]) (by simp [length_arr, length_arrS, Message.length_enc, Tx.length_enc]), Tx.msg_sender_set, GOp.tx_set]
theorem GOp.tx_msg_receiver_get (x : GOp) : nth x.enc 47 = some (.int .u8 (w8 x.tx.msg.receiver)) :=
  (get_sub (a := 1) (j := 46) (GOp.tx_get x) (by simp [Tx.length_enc])).trans (Tx.msg_receiver_get _)
theorem GOp.tx_msg_receiver_set (x : GOp) (y : UInt8) : splice x.enc 47 ([.int .u8 (w8 y)]) = ({ x with tx := { x.tx with msg := { x.tx.msg with receiver := y } } } : GOp).enc := by
  rw [show 47 = 1 + 46 from rfl, splice_sub (GOp.tx_get x) (by simp [GOp.length_enc]) (by simp [length_arr, length_arrS, Message.length_enc, Tx.length_enc]), Tx.msg_receiver_set, GOp.tx_set]
theorem GOp.tx_msg_seq_get (x : GOp) : nth x.enc 48 = some (.int .u64 (w64 x.tx.msg.seq)) :=
  (get_sub (a := 1) (j := 47) (GOp.tx_get x) (by simp [Tx.length_enc])).trans (Tx.msg_seq_get _)
theorem GOp.tx_msg_seq_set (x : GOp) (y : UInt64) : splice x.enc 48 ([.int .u64 (w64 y)]) = ({ x with tx := { x.tx with msg := { x.tx.msg with seq := y } } } : GOp).enc := by
  rw [show 48 = 1 + 47 from rfl, splice_sub (GOp.tx_get x) (by simp [GOp.length_enc]) (by simp [length_arr, length_arrS, Message.length_enc, Tx.length_enc]), Tx.msg_seq_set, GOp.tx_set]
theorem GOp.tx_msg_token_get (x : GOp) : nth x.enc 49 = some (.int .u8 (w8 x.tx.msg.token)) :=
  (get_sub (a := 1) (j := 48) (GOp.tx_get x) (by simp [Tx.length_enc])).trans (Tx.msg_token_get _)
theorem GOp.tx_msg_token_set (x : GOp) (y : UInt8) : splice x.enc 49 ([.int .u8 (w8 y)]) = ({ x with tx := { x.tx with msg := { x.tx.msg with token := y } } } : GOp).enc := by
  rw [show 49 = 1 + 48 from rfl, splice_sub (GOp.tx_get x) (by simp [GOp.length_enc]) (by simp [length_arr, length_arrS, Message.length_enc, Tx.length_enc]), Tx.msg_token_set, GOp.tx_set]
theorem GOp.tx_msg_amount_get (x : GOp) : nth x.enc 50 = some (.int .u64 (w64 x.tx.msg.amount)) :=
  (get_sub (a := 1) (j := 49) (GOp.tx_get x) (by simp [Tx.length_enc])).trans (Tx.msg_amount_get _)
theorem GOp.tx_msg_amount_set (x : GOp) (y : UInt64) : splice x.enc 50 ([.int .u64 (w64 y)]) = ({ x with tx := { x.tx with msg := { x.tx.msg with amount := y } } } : GOp).enc := by
  rw [show 50 = 1 + 49 from rfl, splice_sub (GOp.tx_get x) (by simp [GOp.length_enc]) (by simp [length_arr, length_arrS, Message.length_enc, Tx.length_enc]), Tx.msg_amount_set, GOp.tx_set]
theorem GOp.tx_msg_size_get (x : GOp) : nth x.enc 51 = some (.int .u8 (w8 x.tx.msg.size)) :=
  (get_sub (a := 1) (j := 50) (GOp.tx_get x) (by simp [Tx.length_enc])).trans (Tx.msg_size_get _)
theorem GOp.tx_msg_size_set (x : GOp) (y : UInt8) : splice x.enc 51 ([.int .u8 (w8 y)]) = ({ x with tx := { x.tx with msg := { x.tx.msg with size := y } } } : GOp).enc := by
  rw [show 51 = 1 + 50 from rfl, splice_sub (GOp.tx_get x) (by simp [GOp.length_enc]) (by simp [length_arr, length_arrS, Message.length_enc, Tx.length_enc]), Tx.msg_size_set, GOp.tx_set]
theorem GOp.tx_msg_payload_get (x : GOp) : seg x.enc 52 32 = arr u8v x.tx.msg.payload :=
  (part_sub (a := 1) (j := 51) (GOp.tx_get x) (by simp [Tx.length_enc])).trans (Tx.msg_payload_get _)
theorem GOp.tx_msg_payload_set (x : GOp) (y : (Vector UInt8 32)) : splice x.enc 52 (arr u8v y) = ({ x with tx := { x.tx with msg := { x.tx.msg with payload := y } } } : GOp).enc := by
  rw [show 52 = 1 + 51 from rfl, splice_sub (GOp.tx_get x) (by simp [GOp.length_enc]) (by simp [length_arr, length_arrS, Message.length_enc, Tx.length_enc]), Tx.msg_payload_set, GOp.tx_set]

/-! ### the program's own loads, stores, new variables -/
theorem Try.ld33 (w : World) (b o : Nat) : (loadOp 33 (.pointer (some ⟨b, o, none⟩))).run Try.prog w = lookOr (cellAt (blk w b) o) w (rawLoad Try.prog 33 ⟨b, o, none⟩ w) := load_one Try.underlying33 rfl w b o
theorem Try.st33 (w : World) (b o : Nat) (v : Value) : (storeOp 33 (.pointer (some ⟨b, o, none⟩)) v).run Try.prog w = putOr (storeIn w (blk w b) b o 1 v) (rawStore Try.prog 33 ⟨b, o, none⟩ v w) := store_any (by kernel_rfl) w b o v
theorem Try.ld24 (w : World) (b o : Nat) : (loadOp 24 (.pointer (some ⟨b, o, none⟩))).run Try.prog w = lookOr (cellAt (blk w b) o) w (rawLoad Try.prog 24 ⟨b, o, none⟩ w) := load_one Try.underlying24 rfl w b o
theorem Try.st24 (w : World) (b o : Nat) (v : Value) : (storeOp 24 (.pointer (some ⟨b, o, none⟩)) v).run Try.prog w = putOr (storeIn w (blk w b) b o 1 v) (rawStore Try.prog 24 ⟨b, o, none⟩ v w) := store_any (by kernel_rfl) w b o v
theorem Try.ld29 (w : World) (b o : Nat) : (loadOp 29 (.pointer (some ⟨b, o, none⟩))).run Try.prog w = lookOr (cellAt (blk w b) o) w (rawLoad Try.prog 29 ⟨b, o, none⟩ w) := load_one Try.underlying29 rfl w b o
theorem Try.st29 (w : World) (b o : Nat) (v : Value) : (storeOp 29 (.pointer (some ⟨b, o, none⟩)) v).run Try.prog w = putOr (storeIn w (blk w b) b o 1 v) (rawStore Try.prog 29 ⟨b, o, none⟩ v w) := store_any (by kernel_rfl) w b o v
theorem Try.ld30 (w : World) (b o : Nat) : (loadOp 30 (.pointer (some ⟨b, o, none⟩))).run Try.prog w = lookOr (cellAt (blk w b) o) w (rawLoad Try.prog 30 ⟨b, o, none⟩ w) := load_one Try.underlying30 rfl w b o
theorem Try.st30 (w : World) (b o : Nat) (v : Value) : (storeOp 30 (.pointer (some ⟨b, o, none⟩)) v).run Try.prog w = putOr (storeIn w (blk w b) b o 1 v) (rawStore Try.prog 30 ⟨b, o, none⟩ v w) := store_any (by kernel_rfl) w b o v
theorem Try.ld31 (w : World) (b o : Nat) : (loadOp 31 (.pointer (some ⟨b, o, none⟩))).run Try.prog w = lookOr (cellAt (blk w b) o) w (rawLoad Try.prog 31 ⟨b, o, none⟩ w) := load_one Try.underlying31 rfl w b o
theorem Try.st31 (w : World) (b o : Nat) (v : Value) : (storeOp 31 (.pointer (some ⟨b, o, none⟩)) v).run Try.prog w = putOr (storeIn w (blk w b) b o 1 v) (rawStore Try.prog 31 ⟨b, o, none⟩ v w) := store_any (by kernel_rfl) w b o v
theorem Try.ld5 (w : World) (b o : Nat) : (loadOp 5 (.pointer (some ⟨b, o, none⟩))).run Try.prog w = lookOr (cellAt (blk w b) o) w (rawLoad Try.prog 5 ⟨b, o, none⟩ w) := load_one Try.underlying5 rfl w b o
theorem Try.st5 (w : World) (b o : Nat) (v : Value) : (storeOp 5 (.pointer (some ⟨b, o, none⟩)) v).run Try.prog w = putOr (storeIn w (blk w b) b o 1 v) (rawStore Try.prog 5 ⟨b, o, none⟩ v w) := store_any (by kernel_rfl) w b o v
theorem Try.ld28 (w : World) (b o : Nat) : (loadOp 28 (.pointer (some ⟨b, o, none⟩))).run Try.prog w = lookOr (cellAt (blk w b) o) w (rawLoad Try.prog 28 ⟨b, o, none⟩ w) := load_one Try.underlying28 rfl w b o
theorem Try.st28 (w : World) (b o : Nat) (v : Value) : (storeOp 28 (.pointer (some ⟨b, o, none⟩)) v).run Try.prog w = putOr (storeIn w (blk w b) b o 1 v) (rawStore Try.prog 28 ⟨b, o, none⟩ v w) := store_any (by kernel_rfl) w b o v
theorem Try.ld27 (w : World) (b o : Nat) : (loadOp 27 (.pointer (some ⟨b, o, none⟩))).run Try.prog w = lookOr (cellAt (blk w b) o) w (rawLoad Try.prog 27 ⟨b, o, none⟩ w) := load_one Try.underlying27 rfl w b o
theorem Try.st27 (w : World) (b o : Nat) (v : Value) : (storeOp 27 (.pointer (some ⟨b, o, none⟩)) v).run Try.prog w = putOr (storeIn w (blk w b) b o 1 v) (rawStore Try.prog 27 ⟨b, o, none⟩ v w) := store_any (by kernel_rfl) w b o v
theorem Try.ld26 (w : World) (b o : Nat) : (loadOp 26 (.pointer (some ⟨b, o, none⟩))).run Try.prog w = lookOr (cellAt (blk w b) o) w (rawLoad Try.prog 26 ⟨b, o, none⟩ w) := load_one Try.underlying26 rfl w b o
theorem Try.st26 (w : World) (b o : Nat) (v : Value) : (storeOp 26 (.pointer (some ⟨b, o, none⟩)) v).run Try.prog w = putOr (storeIn w (blk w b) b o 1 v) (rawStore Try.prog 26 ⟨b, o, none⟩ v w) := store_any (by kernel_rfl) w b o v
theorem Try.ld2 (w : World) (b o : Nat) : (loadOp 2 (.pointer (some ⟨b, o, none⟩))).run Try.prog w = lookOr (cellAt (blk w b) o) w (rawLoad Try.prog 2 ⟨b, o, none⟩ w) := load_one Try.underlying2 rfl w b o
theorem Try.st2 (w : World) (b o : Nat) (v : Value) : (storeOp 2 (.pointer (some ⟨b, o, none⟩)) v).run Try.prog w = putOr (storeIn w (blk w b) b o 1 v) (rawStore Try.prog 2 ⟨b, o, none⟩ v w) := store_any (by kernel_rfl) w b o v
theorem Try.ld3 (w : World) (b o : Nat) : (loadOp 3 (.pointer (some ⟨b, o, none⟩))).run Try.prog w = lookOr (cellAt (blk w b) o) w (rawLoad Try.prog 3 ⟨b, o, none⟩ w) := load_one Try.underlying3 rfl w b o
theorem Try.st3 (w : World) (b o : Nat) (v : Value) : (storeOp 3 (.pointer (some ⟨b, o, none⟩)) v).run Try.prog w = putOr (storeIn w (blk w b) b o 1 v) (rawStore Try.prog 3 ⟨b, o, none⟩ v w) := store_any (by kernel_rfl) w b o v
theorem Try.ld4 (w : World) (b o : Nat) : (loadOp 4 (.pointer (some ⟨b, o, none⟩))).run Try.prog w = lookOr (cellAt (blk w b) o) w (rawLoad Try.prog 4 ⟨b, o, none⟩ w) := load_one Try.underlying4 rfl w b o
theorem Try.st4 (w : World) (b o : Nat) (v : Value) : (storeOp 4 (.pointer (some ⟨b, o, none⟩)) v).run Try.prog w = putOr (storeIn w (blk w b) b o 1 v) (rawStore Try.prog 4 ⟨b, o, none⟩ v w) := store_any (by kernel_rfl) w b o v
theorem Try.ld9 (w : World) (b o : Nat) : (loadOp 9 (.pointer (some ⟨b, o, none⟩))).run Try.prog w = lookOr (cellAt (blk w b) o) w (rawLoad Try.prog 9 ⟨b, o, none⟩ w) := load_one Try.underlying9 rfl w b o
theorem Try.st9 (w : World) (b o : Nat) (v : Value) : (storeOp 9 (.pointer (some ⟨b, o, none⟩)) v).run Try.prog w = putOr (storeIn w (blk w b) b o 1 v) (rawStore Try.prog 9 ⟨b, o, none⟩ v w) := store_any (by kernel_rfl) w b o v
theorem Try.ld12 (w : World) (b o : Nat) : (loadOp 12 (.pointer (some ⟨b, o, none⟩))).run Try.prog w = lookOr (cellAt (blk w b) o) w (rawLoad Try.prog 12 ⟨b, o, none⟩ w) := load_one Try.underlying12 rfl w b o
theorem Try.st12 (w : World) (b o : Nat) (v : Value) : (storeOp 12 (.pointer (some ⟨b, o, none⟩)) v).run Try.prog w = putOr (storeIn w (blk w b) b o 1 v) (rawStore Try.prog 12 ⟨b, o, none⟩ v w) := store_any (by kernel_rfl) w b o v
theorem Try.ld21 (w : World) (b o : Nat) : (loadOp 21 (.pointer (some ⟨b, o, none⟩))).run Try.prog w = lookOr (cellAt (blk w b) o) w (rawLoad Try.prog 21 ⟨b, o, none⟩ w) := load_one Try.underlying21 rfl w b o
theorem Try.st21 (w : World) (b o : Nat) (v : Value) : (storeOp 21 (.pointer (some ⟨b, o, none⟩)) v).run Try.prog w = putOr (storeIn w (blk w b) b o 1 v) (rawStore Try.prog 21 ⟨b, o, none⟩ v w) := store_any (by kernel_rfl) w b o v
theorem Try.ld22 (w : World) (b o : Nat) : (loadOp 22 (.pointer (some ⟨b, o, none⟩))).run Try.prog w = lookOr (cellAt (blk w b) o) w (rawLoad Try.prog 22 ⟨b, o, none⟩ w) := load_one Try.underlying22 rfl w b o
theorem Try.st22 (w : World) (b o : Nat) (v : Value) : (storeOp 22 (.pointer (some ⟨b, o, none⟩)) v).run Try.prog w = putOr (storeIn w (blk w b) b o 1 v) (rawStore Try.prog 22 ⟨b, o, none⟩ v w) := store_any (by kernel_rfl) w b o v
theorem Try.ld41 (w : World) (b o : Nat) : (loadOp 41 (.pointer (some ⟨b, o, none⟩))).run Try.prog w = lookOr (cellAt (blk w b) o) w (rawLoad Try.prog 41 ⟨b, o, none⟩ w) := load_one Try.underlying41 rfl w b o
theorem Try.st41 (w : World) (b o : Nat) (v : Value) : (storeOp 41 (.pointer (some ⟨b, o, none⟩)) v).run Try.prog w = putOr (storeIn w (blk w b) b o 1 v) (rawStore Try.prog 41 ⟨b, o, none⟩ v w) := store_any (by kernel_rfl) w b o v
theorem Try.ld50 (w : World) (b o : Nat) : (loadOp 50 (.pointer (some ⟨b, o, none⟩))).run Try.prog w = lookOr (cellAt (blk w b) o) w (rawLoad Try.prog 50 ⟨b, o, none⟩ w) := load_one Try.underlying50 rfl w b o
theorem Try.st50 (w : World) (b o : Nat) (v : Value) : (storeOp 50 (.pointer (some ⟨b, o, none⟩)) v).run Try.prog w = putOr (storeIn w (blk w b) b o 1 v) (rawStore Try.prog 50 ⟨b, o, none⟩ v w) := store_any (by kernel_rfl) w b o v
theorem Try.ld55 (w : World) (b o : Nat) : (loadOp 55 (.pointer (some ⟨b, o, none⟩))).run Try.prog w = lookOr (cellAt (blk w b) o) w (rawLoad Try.prog 55 ⟨b, o, none⟩ w) := load_one Try.underlying55 rfl w b o
theorem Try.st55 (w : World) (b o : Nat) (v : Value) : (storeOp 55 (.pointer (some ⟨b, o, none⟩)) v).run Try.prog w = putOr (storeIn w (blk w b) b o 1 v) (rawStore Try.prog 55 ⟨b, o, none⟩ v w) := store_any (by kernel_rfl) w b o v
theorem Try.ld63 (w : World) (b o : Nat) : (loadOp 63 (.pointer (some ⟨b, o, none⟩))).run Try.prog w = lookOr (cellAt (blk w b) o) w (rawLoad Try.prog 63 ⟨b, o, none⟩ w) := load_one Try.underlying63 rfl w b o
theorem Try.st63 (w : World) (b o : Nat) (v : Value) : (storeOp 63 (.pointer (some ⟨b, o, none⟩)) v).run Try.prog w = putOr (storeIn w (blk w b) b o 1 v) (rawStore Try.prog 63 ⟨b, o, none⟩ v w) := store_any (by kernel_rfl) w b o v
theorem Try.ld78 (w : World) (b o : Nat) : (loadOp 78 (.pointer (some ⟨b, o, none⟩))).run Try.prog w = lookOr (cellAt (blk w b) o) w (rawLoad Try.prog 78 ⟨b, o, none⟩ w) := load_one Try.underlying78 rfl w b o
theorem Try.st78 (w : World) (b o : Nat) (v : Value) : (storeOp 78 (.pointer (some ⟨b, o, none⟩)) v).run Try.prog w = putOr (storeIn w (blk w b) b o 1 v) (rawStore Try.prog 78 ⟨b, o, none⟩ v w) := store_any (by kernel_rfl) w b o v
theorem Try.ld87 (w : World) (b o : Nat) : (loadOp 87 (.pointer (some ⟨b, o, none⟩))).run Try.prog w = lookOr (cellAt (blk w b) o) w (rawLoad Try.prog 87 ⟨b, o, none⟩ w) := load_one Try.underlying87 rfl w b o
theorem Try.st87 (w : World) (b o : Nat) (v : Value) : (storeOp 87 (.pointer (some ⟨b, o, none⟩)) v).run Try.prog w = putOr (storeIn w (blk w b) b o 1 v) (rawStore Try.prog 87 ⟨b, o, none⟩ v w) := store_any (by kernel_rfl) w b o v
theorem Try.ld91 (w : World) (b o : Nat) : (loadOp 91 (.pointer (some ⟨b, o, none⟩))).run Try.prog w = lookOr (cellAt (blk w b) o) w (rawLoad Try.prog 91 ⟨b, o, none⟩ w) := load_one Try.underlying91 rfl w b o
theorem Try.st91 (w : World) (b o : Nat) (v : Value) : (storeOp 91 (.pointer (some ⟨b, o, none⟩)) v).run Try.prog w = putOr (storeIn w (blk w b) b o 1 v) (rawStore Try.prog 91 ⟨b, o, none⟩ v w) := store_any (by kernel_rfl) w b o v
theorem Try.ld32 (w : World) (b o : Nat) : (loadOp 32 (.pointer (some ⟨b, o, none⟩))).run Try.prog w = lookOr (segAt (blk w b) o 32) w (rawLoad Try.prog 32 ⟨b, o, none⟩ w) := load_agg Try.underlying32 rfl (by kernel_rfl) w b o
theorem Try.st32 (w : World) (b o : Nat) (v : Value) : (storeOp 32 (.pointer (some ⟨b, o, none⟩)) v).run Try.prog w = putOr (storeIn w (blk w b) b o 32 v) (rawStore Try.prog 32 ⟨b, o, none⟩ v w) := store_any (by kernel_rfl) w b o v
theorem Try.al32 (w : World) : (allocOp 32).run Try.prog w = .ok (.value (.pointer (some ⟨w.heap.size, 0, none⟩))) (w.alloc (.cells (arr u8v ((Vector.replicate 32 0) : (Vector UInt8 32))).toArray 32)) := alloc_any (v := .agg (arr u8v ((Vector.replicate 32 0) : (Vector UInt8 32))).toArray) (by kernel_rfl) w
theorem Try.ld47 (w : World) (b o : Nat) : (loadOp 47 (.pointer (some ⟨b, o, none⟩))).run Try.prog w = lookOr (segAt (blk w b) o 4) w (rawLoad Try.prog 47 ⟨b, o, none⟩ w) := load_agg Try.underlying47 rfl (by kernel_rfl) w b o
theorem Try.st47 (w : World) (b o : Nat) (v : Value) : (storeOp 47 (.pointer (some ⟨b, o, none⟩)) v).run Try.prog w = putOr (storeIn w (blk w b) b o 4 v) (rawStore Try.prog 47 ⟨b, o, none⟩ v w) := store_any (by kernel_rfl) w b o v
theorem Try.al47 (w : World) : (allocOp 47).run Try.prog w = .ok (.value (.pointer (some ⟨w.heap.size, 0, none⟩))) (w.alloc (.cells (arr u64v ((Vector.replicate 4 0) : (Vector UInt64 4))).toArray 47)) := alloc_any (v := .agg (arr u64v ((Vector.replicate 4 0) : (Vector UInt64 4))).toArray) (by kernel_rfl) w
theorem Try.ld52 (w : World) (b o : Nat) : (loadOp 52 (.pointer (some ⟨b, o, none⟩))).run Try.prog w = lookOr (segAt (blk w b) o 2) w (rawLoad Try.prog 52 ⟨b, o, none⟩ w) := load_agg Try.underlying52 rfl (by kernel_rfl) w b o
theorem Try.st52 (w : World) (b o : Nat) (v : Value) : (storeOp 52 (.pointer (some ⟨b, o, none⟩)) v).run Try.prog w = putOr (storeIn w (blk w b) b o 2 v) (rawStore Try.prog 52 ⟨b, o, none⟩ v w) := store_any (by kernel_rfl) w b o v
theorem Try.al52 (w : World) : (allocOp 52).run Try.prog w = .ok (.value (.pointer (some ⟨w.heap.size, 0, none⟩))) (w.alloc (.cells (arr i64v ((Vector.replicate 2 0) : (Vector Int 2))).toArray 52)) := alloc_any (v := .agg (arr i64v ((Vector.replicate 2 0) : (Vector Int 2))).toArray) (by kernel_rfl) w
theorem Try.ld71 (w : World) (b o : Nat) : (loadOp 71 (.pointer (some ⟨b, o, none⟩))).run Try.prog w = lookOr (segAt (blk w b) o 20) w (rawLoad Try.prog 71 ⟨b, o, none⟩ w) := load_agg Try.underlying71 rfl (by kernel_rfl) w b o
theorem Try.st71 (w : World) (b o : Nat) (v : Value) : (storeOp 71 (.pointer (some ⟨b, o, none⟩)) v).run Try.prog w = putOr (storeIn w (blk w b) b o 20 v) (rawStore Try.prog 71 ⟨b, o, none⟩ v w) := store_any (by kernel_rfl) w b o v
theorem Try.al71 (w : World) : (allocOp 71).run Try.prog w = .ok (.value (.pointer (some ⟨w.heap.size, 0, none⟩))) (w.alloc (.cells (arr u8v ((Vector.replicate 20 0) : (Vector UInt8 20))).toArray 71)) := alloc_any (v := .agg (arr u8v ((Vector.replicate 20 0) : (Vector UInt8 20))).toArray) (by kernel_rfl) w
theorem Try.ld35 (w : World) (b o : Nat) : (loadOp 35 (.pointer (some ⟨b, o, none⟩))).run Try.prog w = lookOr (segAt (blk w b) o 41) w (rawLoad Try.prog 35 ⟨b, o, none⟩ w) := load_agg Try.underlying35 rfl (by kernel_rfl) w b o
theorem Try.st35 (w : World) (b o : Nat) (v : Value) : (storeOp 35 (.pointer (some ⟨b, o, none⟩)) v).run Try.prog w = putOr (storeIn w (blk w b) b o 41 v) (rawStore Try.prog 35 ⟨b, o, none⟩ v w) := store_any (by kernel_rfl) w b o v
theorem Try.al35 (w : World) : (allocOp 35).run Try.prog w = .ok (.value (.pointer (some ⟨w.heap.size, 0, none⟩))) (w.alloc (.cells (Message.enc (Message.zero : Message)).toArray 35)) := alloc_any (v := .agg (Message.enc (Message.zero : Message)).toArray) (by kernel_rfl) w
theorem Try.ld37 (w : World) (b o : Nat) : (loadOp 37 (.pointer (some ⟨b, o, none⟩))).run Try.prog w = lookOr (segAt (blk w b) o 83) w (rawLoad Try.prog 37 ⟨b, o, none⟩ w) := load_agg Try.underlying37 rfl (by kernel_rfl) w b o
theorem Try.st37 (w : World) (b o : Nat) (v : Value) : (storeOp 37 (.pointer (some ⟨b, o, none⟩)) v).run Try.prog w = putOr (storeIn w (blk w b) b o 83 v) (rawStore Try.prog 37 ⟨b, o, none⟩ v w) := store_any (by kernel_rfl) w b o v
theorem Try.al37 (w : World) : (allocOp 37).run Try.prog w = .ok (.value (.pointer (some ⟨w.heap.size, 0, none⟩))) (w.alloc (.cells (Tx.enc (Tx.zero : Tx)).toArray 37)) := alloc_any (v := .agg (Tx.enc (Tx.zero : Tx)).toArray) (by kernel_rfl) w
theorem Try.ld39 (w : World) (b o : Nat) : (loadOp 39 (.pointer (some ⟨b, o, none⟩))).run Try.prog w = lookOr (segAt (blk w b) o 90) w (rawLoad Try.prog 39 ⟨b, o, none⟩ w) := load_agg Try.underlying39 rfl (by kernel_rfl) w b o
theorem Try.st39 (w : World) (b o : Nat) (v : Value) : (storeOp 39 (.pointer (some ⟨b, o, none⟩)) v).run Try.prog w = putOr (storeIn w (blk w b) b o 90 v) (rawStore Try.prog 39 ⟨b, o, none⟩ v w) := store_any (by kernel_rfl) w b o v
theorem Try.al39 (w : World) : (allocOp 39).run Try.prog w = .ok (.value (.pointer (some ⟨w.heap.size, 0, none⟩))) (w.alloc (.cells (GOp.enc (GOp.zero : GOp)).toArray 39)) := alloc_any (v := .agg (GOp.enc (GOp.zero : GOp)).toArray) (by kernel_rfl) w
end Go.Proofs.Qxb6500786a
