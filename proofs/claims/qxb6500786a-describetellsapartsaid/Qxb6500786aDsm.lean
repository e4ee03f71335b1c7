import Derived.Test.Qxb6500786aPay
import Derived.StillTailTactics
import Derived.Deep.QuietTactic
import Derived.BigQuiet
import Derived.Deep.RegionHeld
import Derived.Deep.CutRange
import Derived.Laws.ResultCell
import Derived.Laws.Rows
import Derived.DeepKeys
import Derived.DataBytes
import Derived.Laws.StructEq
import Derived.Laws.AppendOwn
set_option linter.unusedSimpArgs false
set_option linter.unusedVariables false
namespace Go.Proofs.Qxb6500786a
open Go.RowKit Go.Blk
attribute [local go_sem ↓] execOp_load execOp_store execOp_alloc
attribute [local go_sem] Try.ld33 Try.st33 Try.ld24 Try.st24 Try.ld29 Try.st29 Try.ld30 Try.st30 Try.ld31 Try.st31 Try.ld5 Try.st5 Try.ld28 Try.st28 Try.ld27 Try.st27 Try.ld26 Try.st26 Try.ld2 Try.st2 Try.ld3 Try.st3 Try.ld4 Try.st4 Try.ld9 Try.st9 Try.ld12 Try.st12 Try.ld21 Try.st21 Try.ld22 Try.st22 Try.ld41 Try.st41 Try.ld50 Try.st50 Try.ld55 Try.st55 Try.ld63 Try.st63 Try.ld78 Try.st78 Try.ld87 Try.st87 Try.ld91 Try.st91 Try.ld32 Try.st32 Try.ld47 Try.st47 Try.ld52 Try.st52 Try.ld71 Try.st71 Try.ld35 Try.st35 Try.ld37 Try.st37 Try.ld39 Try.st39 Try.al32 Try.al47 Try.al52 Try.al71 Try.al35 Try.al37 Try.al39
attribute [local go_sem] Message.length_enc Message.ok_enc Message.all_get Message.all_set Message.kind_get Message.kind_set Message.from__get Message.from__set Message.to__get Message.to__set Message.sender_get Message.sender_set Message.receiver_get Message.receiver_set Message.seq_get Message.seq_set Message.token_get Message.token_set Message.amount_get Message.amount_set Message.size_get Message.size_set Message.payload_get Message.payload_set Tx.length_enc Tx.ok_enc Tx.all_get Tx.all_set Tx.kind_get Tx.kind_set Tx.chain_get Tx.chain_set Tx.from__get Tx.from__set Tx.nonce_get Tx.nonce_set Tx.fee_get Tx.fee_set Tx.to__get Tx.to__set Tx.dest_get Tx.dest_set Tx.token_get Tx.token_set Tx.amount_get Tx.amount_set Tx.size_get Tx.size_set Tx.payload_get Tx.payload_set Tx.msg_get Tx.msg_set Tx.msg_kind_get Tx.msg_kind_set Tx.msg_from__get Tx.msg_from__set Tx.msg_to__get Tx.msg_to__set Tx.msg_sender_get Tx.msg_sender_set Tx.msg_receiver_get Tx.msg_receiver_set Tx.msg_seq_get Tx.msg_seq_set Tx.msg_token_get Tx.msg_token_set Tx.msg_amount_get Tx.msg_amount_set Tx.msg_size_get Tx.msg_size_set Tx.msg_payload_get Tx.msg_payload_set GOp.length_enc GOp.ok_enc GOp.all_get GOp.all_set GOp.kind_get GOp.kind_set GOp.tx_get GOp.tx_set GOp.txs_get GOp.txs_set GOp.gas_get GOp.gas_set GOp.acct_get GOp.acct_set GOp.token_get GOp.token_set GOp.chain_get GOp.chain_set GOp.seq_get GOp.seq_set GOp.tx_kind_get GOp.tx_kind_set GOp.tx_chain_get GOp.tx_chain_set GOp.tx_from__get GOp.tx_from__set GOp.tx_nonce_get GOp.tx_nonce_set GOp.tx_fee_get GOp.tx_fee_set GOp.tx_to__get GOp.tx_to__set GOp.tx_dest_get GOp.tx_dest_set GOp.tx_token_get GOp.tx_token_set GOp.tx_amount_get GOp.tx_amount_set GOp.tx_size_get GOp.tx_size_set GOp.tx_payload_get GOp.tx_payload_set GOp.tx_msg_get GOp.tx_msg_set GOp.tx_msg_kind_get GOp.tx_msg_kind_set GOp.tx_msg_from__get GOp.tx_msg_from__set GOp.tx_msg_to__get GOp.tx_msg_to__set GOp.tx_msg_sender_get GOp.tx_msg_sender_set GOp.tx_msg_receiver_get GOp.tx_msg_receiver_set GOp.tx_msg_seq_get GOp.tx_msg_seq_set GOp.tx_msg_token_get GOp.tx_msg_token_set GOp.tx_msg_amount_get GOp.tx_msg_amount_set GOp.tx_msg_size_get GOp.tx_msg_size_set GOp.tx_msg_payload_get GOp.tx_msg_payload_set
attribute [local go_sem] size_put size_ext blk_put free_put blk_alloc free_alloc blk_drew free_drew blk_ext free_ext lookOr_some putOr_some segAt_some cellAt_some storeIn_some put_put put_alloc_new length_arr ok_arr_u8 ok_arr_u32 ok_arr_u64 ok_arr_i64 ok_arr_sl cellsV_agg cellsV_int cellsV_bool cellsV_string cellsV_pointer cellsV_slice cellsV_sl ok_int ok_bool ok_string ok_pointer ok_slice ok_sl toList_arr seg_arr set_arr nth_splice nth_splice0 seg_splice seg_splice0 splice_splice splice_splice0 length_splice_if
attribute [local go_sem ↓] execOp_box
attribute [local go_sem] box_run nth_arr_u8 put_arr_u8
theorem w64_lt (a : UInt64) : a.toNat < 18446744073709551616 := by have := a.toNat_lt; omega
theorem size_hex {xs : List UInt8} {n : Nat} (h : xs.length ≤ n) : (hexB xs).size ≤ 2 * n := by
  show (hexF xs).toArray.size ≤ _
  rw [List.size_toArray, hexF_length]; omega
def headM (m : Message) : ByteArray := msgKindB m.kind.toNat ++ (⟨#[32, 109, 101, 115, 115, 97, 103, 101, 32]⟩ : ByteArray) ++ (itoaB m.seq.toNat) ++ (⟨#[32, 102, 114, 111, 109, 32]⟩ : ByteArray) ++ (partyB m.from_.toNat m.sender.toNat) ++ (⟨#[32, 116, 111, 32]⟩ : ByteArray) ++ (partyB m.to_.toNat m.receiver.toNat)
theorem size_headM (m : Message) : (headM m).size ≤ 200 := Nat.le_trans (size_cat (size_cat (size_cat (size_cat (size_cat (size_cat (size_msgKind (w8_lt m.kind)) ((by decide : ByteArray.size (⟨#[32, 109, 101, 115, 115, 97, 103, 101, 32]⟩ : ByteArray) ≤ 9))) (size_itoa (w64_lt m.seq))) ((by decide : ByteArray.size (⟨#[32, 102, 114, 111, 109, 32]⟩ : ByteArray) ≤ 6))) (size_party (w8_lt m.from_) (w8_lt m.sender))) ((by decide : ByteArray.size (⟨#[32, 116, 111, 32]⟩ : ByteArray) ≤ 4))) (size_party (w8_lt m.to_) (w8_lt m.receiver))) (by decide)
def descM (m : Message) : ByteArray := if w8 m.kind = 2 then headM m ++ (⟨#[58, 32]⟩ : ByteArray) ++ valueB m.token.toNat m.amount.toNat else if w8 m.kind = 1 then headM m ++ (⟨#[58, 32, 48, 120]⟩ : ByteArray) ++ hexB (m.payload.toList.take m.size.toNat) else headM m
attribute [local go_sem ↓] execOp_index execOp_convert execOp_slice execOp_add9 execOp_make execOp_bslice2 execOp_copy
attribute [local go_sem] index_hex Try.sl71lo add_run bslice63 Try.sl32hi64 Try.cpv copyOrV_some Try.cp63 copyOr_some copyIn_some srcB_drew length_bv one_bv
set_option maxRecDepth 20000 in
set_option maxHeartbeats 2000000 in
theorem descM_any (w : World) (m : Message) (h32 : m.size.toNat ≤ 32) : Calls Try.prog 12 #[.agg m.enc.toArray] w fun e w' => e = .returned (.string (descM m)) ∧ w.Extends w' := by
  have r0 : room (msgKindB m.kind.toNat) (⟨#[32, 109, 101, 115, 115, 97, 103, 101, 32]⟩ : ByteArray) = true := room_of (size_msgKind (w8_lt m.kind)) ((by decide : ByteArray.size (⟨#[32, 109, 101, 115, 115, 97, 103, 101, 32]⟩ : ByteArray) ≤ 9)) (by decide)
  have r1 : room (msgKindB m.kind.toNat ++ (⟨#[32, 109, 101, 115, 115, 97, 103, 101, 32]⟩ : ByteArray)) (itoaB m.seq.toNat) = true := room_of (size_cat (size_msgKind (w8_lt m.kind)) ((by decide : ByteArray.size (⟨#[32, 109, 101, 115, 115, 97, 103, 101, 32]⟩ : ByteArray) ≤ 9))) (size_itoa (w64_lt m.seq)) (by decide)
  have r2 : room (msgKindB m.kind.toNat ++ (⟨#[32, 109, 101, 115, 115, 97, 103, 101, 32]⟩ : ByteArray) ++ (itoaB m.seq.toNat)) (⟨#[32, 102, 114, 111, 109, 32]⟩ : ByteArray) = true := room_of (size_cat (size_cat (size_msgKind (w8_lt m.kind)) ((by decide : ByteArray.size (⟨#[32, 109, 101, 115, 115, 97, 103, 101, 32]⟩ : ByteArray) ≤ 9))) (size_itoa (w64_lt m.seq))) ((by decide : ByteArray.size (⟨#[32, 102, 114, 111, 109, 32]⟩ : ByteArray) ≤ 6)) (by decide)
  have r3 : room (msgKindB m.kind.toNat ++ (⟨#[32, 109, 101, 115, 115, 97, 103, 101, 32]⟩ : ByteArray) ++ (itoaB m.seq.toNat) ++ (⟨#[32, 102, 114, 111, 109, 32]⟩ : ByteArray)) (partyB m.from_.toNat m.sender.toNat) = true := room_of (size_cat (size_cat (size_cat (size_msgKind (w8_lt m.kind)) ((by decide : ByteArray.size (⟨#[32, 109, 101, 115, 115, 97, 103, 101, 32]⟩ : ByteArray) ≤ 9))) (size_itoa (w64_lt m.seq))) ((by decide : ByteArray.size (⟨#[32, 102, 114, 111, 109, 32]⟩ : ByteArray) ≤ 6))) (size_party (w8_lt m.from_) (w8_lt m.sender)) (by decide)
  have r4 : room (msgKindB m.kind.toNat ++ (⟨#[32, 109, 101, 115, 115, 97, 103, 101, 32]⟩ : ByteArray) ++ (itoaB m.seq.toNat) ++ (⟨#[32, 102, 114, 111, 109, 32]⟩ : ByteArray) ++ (partyB m.from_.toNat m.sender.toNat)) (⟨#[32, 116, 111, 32]⟩ : ByteArray) = true := room_of (size_cat (size_cat (size_cat (size_cat (size_msgKind (w8_lt m.kind)) ((by decide : ByteArray.size (⟨#[32, 109, 101, 115, 115, 97, 103, 101, 32]⟩ : ByteArray) ≤ 9))) (size_itoa (w64_lt m.seq))) ((by decide : ByteArray.size (⟨#[32, 102, 114, 111, 109, 32]⟩ : ByteArray) ≤ 6))) (size_party (w8_lt m.from_) (w8_lt m.sender))) ((by decide : ByteArray.size (⟨#[32, 116, 111, 32]⟩ : ByteArray) ≤ 4)) (by decide)
  have r5 : room (msgKindB m.kind.toNat ++ (⟨#[32, 109, 101, 115, 115, 97, 103, 101, 32]⟩ : ByteArray) ++ (itoaB m.seq.toNat) ++ (⟨#[32, 102, 114, 111, 109, 32]⟩ : ByteArray) ++ (partyB m.from_.toNat m.sender.toNat) ++ (⟨#[32, 116, 111, 32]⟩ : ByteArray)) (partyB m.to_.toNat m.receiver.toNat) = true := room_of (size_cat (size_cat (size_cat (size_cat (size_cat (size_msgKind (w8_lt m.kind)) ((by decide : ByteArray.size (⟨#[32, 109, 101, 115, 115, 97, 103, 101, 32]⟩ : ByteArray) ≤ 9))) (size_itoa (w64_lt m.seq))) ((by decide : ByteArray.size (⟨#[32, 102, 114, 111, 109, 32]⟩ : ByteArray) ≤ 6))) (size_party (w8_lt m.from_) (w8_lt m.sender))) ((by decide : ByteArray.size (⟨#[32, 116, 111, 32]⟩ : ByteArray) ≤ 4))) (size_party (w8_lt m.to_) (w8_lt m.receiver)) (by decide)
  go_enter Try.func12, Try.ntmps12
  go_upto_region 1 with fail
  refine wp_world (fun W1 => blk W1 w.heap.size = some m.enc ∧ Hid (w.Extends W1)) ⟨?_, extends_alloc (ext_Ext (Ext.refl w)) _⟩ ?_
  · rw [blk_alloc, if_pos rfl]
  obtain ⟨bx, hbx⟩ : ∃ bx, bx = w.heap.size := ⟨_, rfl⟩
  rw [← hbx]
  clear hbx
  rintro W1 ⟨h1, HE1⟩
  refine wp_region_held_drew (S := fun W' => blk W' bx = some m.enc ∧ True) (by kernel_rfl) ⟨h1, trivial⟩ (fun hHeld => ?_)
  have h1d : blk W1.drew bx = some m.enc := h1
  have HE1d : Hid (w.Extends W1.drew) := extends_drew HE1.out
  refine wpAnyH_take (i := 0) (oi := ⟨_, _, _, _, _, _⟩) (v := ?_) rfl (by kernel_rfl) (by kernel_rfl) (by kernel_rfl) (fun _ _ _ h => h) (Or.inl ⟨by rfl, ?_⟩) (by assumption) ?_
  rotate_left 1
  · intro W' hSw
    obtain ⟨hS1, hS2⟩ := hSw
    go_simp
    try with_reducible rfl
  try simp only [Act.put, List.setIfInBounds_toArray, List.set_cons_zero, List.set_cons_succ]
  refine wpAnyH_take (i := 1) (oi := ⟨_, _, _, _, _, _⟩) (v := ?_) rfl (by kernel_rfl) (by kernel_rfl) (by kernel_rfl) (fun _ _ _ h => h) (Or.inl ⟨by rfl, ?_⟩) (by assumption) ?_
  rotate_left 1
  · intro W' hSw
    obtain ⟨hS1, hS2⟩ := hSw
    go_simp
    try with_reducible rfl
  try simp only [Act.put, List.setIfInBounds_toArray, List.set_cons_zero, List.set_cons_succ]
  refine wpAnyH_take (i := 4) (oi := ⟨_, _, _, _, _, _⟩) (v := ?_) rfl (by kernel_rfl) (by kernel_rfl) (by kernel_rfl) (fun _ _ _ h => h) (Or.inl ⟨by rfl, ?_⟩) (by assumption) ?_
  rotate_left 1
  · intro W' hSw
    obtain ⟨hS1, hS2⟩ := hSw
    go_simp
    try with_reducible rfl
  try simp only [Act.put, List.setIfInBounds_toArray, List.set_cons_zero, List.set_cons_succ]
  refine wpAnyH_take (i := 5) (oi := ⟨_, _, _, _, _, _⟩) (v := ?_) rfl (by kernel_rfl) (by kernel_rfl) (by kernel_rfl) (fun _ _ _ h => h) (Or.inl ⟨by rfl, ?_⟩) (by assumption) ?_
  rotate_left 1
  · intro W' hSw
    obtain ⟨hS1, hS2⟩ := hSw
    go_simp
    try with_reducible rfl
  try simp only [Act.put, List.setIfInBounds_toArray, List.set_cons_zero, List.set_cons_succ]
  refine wpAnyH_take (i := 9) (oi := ⟨_, _, _, _, _, _⟩) (v := ?_) rfl (by kernel_rfl) (by kernel_rfl) (by kernel_rfl) (fun _ _ _ h => h) (Or.inl ⟨by rfl, ?_⟩) (by assumption) ?_
  rotate_left 1
  · intro W' hSw
    obtain ⟨hS1, hS2⟩ := hSw
    go_simp
    try with_reducible rfl
  try simp only [Act.put, List.setIfInBounds_toArray, List.set_cons_zero, List.set_cons_succ]
  refine wpAnyH_take (i := 10) (oi := ⟨_, _, _, _, _, _⟩) (v := ?_) rfl (by kernel_rfl) (by kernel_rfl) (by kernel_rfl) (fun _ _ _ h => h) (Or.inl ⟨by rfl, ?_⟩) (by assumption) ?_
  rotate_left 1
  · intro W' hSw
    obtain ⟨hS1, hS2⟩ := hSw
    go_simp
    try with_reducible rfl
  try simp only [Act.put, List.setIfInBounds_toArray, List.set_cons_zero, List.set_cons_succ]
  refine wpAnyH_take (i := 11) (oi := ⟨_, _, _, _, _, _⟩) (v := ?_) rfl (by kernel_rfl) (by kernel_rfl) (by kernel_rfl) (fun _ _ _ h => h) (Or.inl ⟨by rfl, ?_⟩) (by assumption) ?_
  rotate_left 1
  · intro W' hSw
    obtain ⟨hS1, hS2⟩ := hSw
    go_simp
    try with_reducible rfl
  try simp only [Act.put, List.setIfInBounds_toArray, List.set_cons_zero, List.set_cons_succ]
  refine wpAnyH_take (i := 12) (oi := ⟨_, _, _, _, _, _⟩) (v := ?_) rfl (by kernel_rfl) (by kernel_rfl) (by kernel_rfl) (fun _ _ _ h => h) (Or.inl ⟨by rfl, ?_⟩) (by assumption) ?_
  rotate_left 1
  · intro W' hSw
    obtain ⟨hS1, hS2⟩ := hSw
    go_simp
    try with_reducible rfl
  try simp only [Act.put, List.setIfInBounds_toArray, List.set_cons_zero, List.set_cons_succ]
  refine wpAnyH_take (i := 16) (oi := ⟨_, _, _, _, _, _⟩) (v := ?_) rfl (by kernel_rfl) (by kernel_rfl) (by kernel_rfl) (fun _ _ _ h => h) (Or.inl ⟨by rfl, ?_⟩) (by assumption) ?_
  rotate_left 1
  · intro W' hSw
    obtain ⟨hS1, hS2⟩ := hSw
    go_simp
    try with_reducible rfl
  try simp only [Act.put, List.setIfInBounds_toArray, List.set_cons_zero, List.set_cons_succ]
  refine wpAnyH_take (i := 17) (oi := ⟨_, _, _, _, _, _⟩) (v := ?_) rfl (by kernel_rfl) (by kernel_rfl) (by kernel_rfl) (fun _ _ _ h => h) (Or.inl ⟨by rfl, ?_⟩) (by assumption) ?_
  rotate_left 1
  · intro W' hSw
    obtain ⟨hS1, hS2⟩ := hSw
    go_simp
    try with_reducible rfl
  try simp only [Act.put, List.setIfInBounds_toArray, List.set_cons_zero, List.set_cons_succ]
  refine wpAnyH_take (i := 18) (oi := ⟨_, _, _, _, _, _⟩) (v := ?_) rfl (by kernel_rfl) (by kernel_rfl) (by kernel_rfl) (fun _ _ _ h => h) (Or.inl ⟨by rfl, ?_⟩) (by assumption) ?_
  rotate_left 1
  · intro W' hSw
    obtain ⟨hS1, hS2⟩ := hSw
    go_simp
    try with_reducible rfl
  try simp only [Act.put, List.setIfInBounds_toArray, List.set_cons_zero, List.set_cons_succ]
  refine wpAnyH_take (i := 19) (oi := ⟨_, _, _, _, _, _⟩) (v := ?_) rfl (by kernel_rfl) (by kernel_rfl) (by kernel_rfl) (fun _ _ _ h => h) (Or.inl ⟨by rfl, ?_⟩) (by assumption) ?_
  rotate_left 1
  · intro W' hSw
    obtain ⟨hS1, hS2⟩ := hSw
    go_simp
    try with_reducible rfl
  try simp only [Act.put, List.setIfInBounds_toArray, List.set_cons_zero, List.set_cons_succ]
  refine wpAnyH_ready (rs := [2]) (by kernel_rfl) (by simp) ?_
  refine AllReadyH.cons (o := ⟨_, _, _, _, _, _⟩) rfl (fun K hK => ?_) AllReadyH.nil
  go_simp
  refine (msgKind_any W1.drew m.kind.toNat (w8_lt _)).mono ?_
  rintro e W2 ⟨rfl, he⟩
  have h2 : blk W2 bx = some m.enc := (he.blk (blk_lt h1d)).trans h1d
  have HE2 : Hid (w.Extends W2) := HE1d.out.trans (ext_Ext he)
  clear he
  dsimp only
  refine hK.out _ _ ?_ (fun hHeld => ?_)
  · exact ⟨h2, trivial⟩
  clear hK K
  try simp only [Act.put, List.setIfInBounds_toArray, List.set_cons_zero, List.set_cons_succ]
  refine wpAnyH_take (i := 3) (oi := ⟨_, _, _, _, _, _⟩) (v := ?_) rfl (by kernel_rfl) (by kernel_rfl) (by kernel_rfl) (fun _ _ _ h => h) (Or.inl ⟨by rfl, ?_⟩) (by assumption) ?_
  rotate_left 1
  · intro W' hSw
    obtain ⟨hS1, hS2⟩ := hSw
    go_simp
    try with_reducible rfl
  try simp only [Act.put, List.setIfInBounds_toArray, List.set_cons_zero, List.set_cons_succ]
  refine wpAnyH_ready (rs := [6]) (by kernel_rfl) (by simp) ?_
  refine AllReadyH.cons (o := ⟨_, _, _, _, _, _⟩) rfl (fun K hK => ?_) AllReadyH.nil
  go_simp
  refine (itoa_any W2 m.seq.toNat (w64_lt _)).mono ?_
  rintro e W3 ⟨rfl, he⟩
  have h3 : blk W3 bx = some m.enc := (he.blk (blk_lt h2)).trans h2
  have HE3 : Hid (w.Extends W3) := HE2.out.trans (ext_Ext he)
  clear he
  dsimp only
  refine hK.out _ _ ?_ (fun hHeld => ?_)
  · exact ⟨h3, trivial⟩
  clear hK K
  try simp only [Act.put, List.setIfInBounds_toArray, List.set_cons_zero, List.set_cons_succ]
  refine wpAnyH_take (i := 7) (oi := ⟨_, _, _, _, _, _⟩) (v := ?_) rfl (by kernel_rfl) (by kernel_rfl) (by kernel_rfl) (fun _ _ _ h => h) (Or.inl ⟨by rfl, ?_⟩) (by assumption) ?_
  rotate_left 1
  · intro W' hSw
    obtain ⟨hS1, hS2⟩ := hSw
    go_simp
    try with_reducible rfl
  try simp only [Act.put, List.setIfInBounds_toArray, List.set_cons_zero, List.set_cons_succ]
  refine wpAnyH_take (i := 8) (oi := ⟨_, _, _, _, _, _⟩) (v := ?_) rfl (by kernel_rfl) (by kernel_rfl) (by kernel_rfl) (fun _ _ _ h => h) (Or.inl ⟨by rfl, ?_⟩) (by assumption) ?_
  rotate_left 1
  · intro W' hSw
    obtain ⟨hS1, hS2⟩ := hSw
    go_simp
    try with_reducible rfl
  try simp only [Act.put, List.setIfInBounds_toArray, List.set_cons_zero, List.set_cons_succ]
  refine wpAnyH_ready (rs := [13]) (by kernel_rfl) (by simp) ?_
  refine AllReadyH.cons (o := ⟨_, _, _, _, _, _⟩) rfl (fun K hK => ?_) AllReadyH.nil
  go_simp
  refine (party_any W3 m.from_.toNat m.sender.toNat (w8_lt _) (w8_lt _)).mono ?_
  rintro e W4 ⟨rfl, he⟩
  have h4 : blk W4 bx = some m.enc := (he.blk (blk_lt h3)).trans h3
  have HE4 : Hid (w.Extends W4) := HE3.out.trans (ext_Ext he)
  clear he
  dsimp only
  refine hK.out _ _ ?_ (fun hHeld => ?_)
  · exact ⟨h4, trivial⟩
  clear hK K
  try simp only [Act.put, List.setIfInBounds_toArray, List.set_cons_zero, List.set_cons_succ]
  refine wpAnyH_take (i := 14) (oi := ⟨_, _, _, _, _, _⟩) (v := ?_) rfl (by kernel_rfl) (by kernel_rfl) (by kernel_rfl) (fun _ _ _ h => h) (Or.inl ⟨by rfl, ?_⟩) (by assumption) ?_
  rotate_left 1
  · intro W' hSw
    obtain ⟨hS1, hS2⟩ := hSw
    go_simp
    try with_reducible rfl
  try simp only [Act.put, List.setIfInBounds_toArray, List.set_cons_zero, List.set_cons_succ]
  refine wpAnyH_take (i := 15) (oi := ⟨_, _, _, _, _, _⟩) (v := ?_) rfl (by kernel_rfl) (by kernel_rfl) (by kernel_rfl) (fun _ _ _ h => h) (Or.inl ⟨by rfl, ?_⟩) (by assumption) ?_
  rotate_left 1
  · intro W' hSw
    obtain ⟨hS1, hS2⟩ := hSw
    go_simp
    try with_reducible rfl
  try simp only [Act.put, List.setIfInBounds_toArray, List.set_cons_zero, List.set_cons_succ]
  refine wpAnyH_ready (rs := [20]) (by kernel_rfl) (by simp) ?_
  refine AllReadyH.cons (o := ⟨_, _, _, _, _, _⟩) rfl (fun K hK => ?_) AllReadyH.nil
  go_simp
  refine (party_any W4 m.to_.toNat m.receiver.toNat (w8_lt _) (w8_lt _)).mono ?_
  rintro e W5 ⟨rfl, he⟩
  have h5 : blk W5 bx = some m.enc := (he.blk (blk_lt h4)).trans h4
  have HE5 : Hid (w.Extends W5) := HE4.out.trans (ext_Ext he)
  clear he
  dsimp only
  refine hK.out _ _ ?_ (fun hHeld => ?_)
  · exact ⟨h5, trivial⟩
  clear hK K
  try simp only [Act.put, List.setIfInBounds_toArray, List.set_cons_zero, List.set_cons_succ]
  refine wpAnyH_take (i := 21) (oi := ⟨_, _, _, _, _, _⟩) (v := ?_) rfl (by kernel_rfl) (by kernel_rfl) (by kernel_rfl) (fun _ _ _ h => h) (Or.inl ⟨by rfl, ?_⟩) (by assumption) ?_
  rotate_left 1
  · intro W' hSw
    obtain ⟨hS1, hS2⟩ := hSw
    go_simp
    try with_reducible rfl
  try simp only [Act.put, List.setIfInBounds_toArray, List.set_cons_zero, List.set_cons_succ]
  refine wpAnyH_take (i := 22) (oi := ⟨_, _, _, _, _, _⟩) (v := ?_) rfl (by kernel_rfl) (by kernel_rfl) (by kernel_rfl) (fun _ _ _ h => h) (Or.inl ⟨by rfl, ?_⟩) (by assumption) ?_
  rotate_left 1
  · intro W' hSw
    obtain ⟨hS1, hS2⟩ := hSw
    go_simp
    try with_reducible rfl
  try simp only [Act.put, List.setIfInBounds_toArray, List.set_cons_zero, List.set_cons_succ]
  refine wpAnyH_done (by kernel_rfl) ?_ _
  obtain ⟨H, hH⟩ : ∃ H, H = headM m := ⟨_, rfl⟩
  have hHs : H.size ≤ 200 := by rw [hH]; exact size_headM m
  have hHe : msgKindB m.kind.toNat ++ (⟨#[32, 109, 101, 115, 115, 97, 103, 101, 32]⟩ : ByteArray) ++ (itoaB m.seq.toNat) ++ (⟨#[32, 102, 114, 111, 109, 32]⟩ : ByteArray) ++ (partyB m.from_.toNat m.sender.toNat) ++ (⟨#[32, 116, 111, 32]⟩ : ByteArray) ++ (partyB m.to_.toNat m.receiver.toNat) = H := hH.symm
  rw [hHe]
  have HH : Hid (H = headM m) := hH
  clear hH hHe r0 r1 r2 r3 r4 r5
  have k1 : room H (⟨#[58, 32]⟩ : ByteArray) = true := room_of hHs (n := 2) (by decide) (by decide)
  have k2 : room (H ++ (⟨#[58, 32]⟩ : ByteArray)) (valueB m.token.toNat m.amount.toNat) = true := room_of (size_cat hHs (n := 2) (by decide)) (size_value (w8_lt _) (w64_lt _)) (by decide)
  have k3 : room H (⟨#[58, 32, 48, 120]⟩ : ByteArray) = true := room_of hHs (n := 4) (by decide) (by decide)
  have k4 : room (H ++ (⟨#[58, 32, 48, 120]⟩ : ByteArray)) (hexB (m.payload.toList.take m.size.toNat)) = true := room_of (size_cat hHs (n := 4) (by decide)) (size_hex (n := 32) (by rw [List.length_take]; omega)) (by decide)
  clear hHs h1 h1d HE1 HE1d h2 h3 h4 HE2 HE3 HE4
  by_cases q2 : w8 m.kind = 2
  · have HF : Hid (descM m = headM m ++ (⟨#[58, 32]⟩ : ByteArray) ++ valueB m.token.toNat m.amount.toNat) := by show _ = _; unfold descM; rw [if_pos q2]
    go_wp2_with fail
    refine (value_any W5 m.token.toNat m.amount.toNat (w8_lt _) (w64_lt _)).mono ?_
    rintro e W6 ⟨rfl, he⟩
    go_wp2_with fail
    go_ret
    refine ⟨?_, HE5.out.trans (ext_Ext he)⟩
    rw [HF.out, ← HH.out]
    rfl
  · by_cases q1 : w8 m.kind = 1
    · have HF : Hid (descM m = headM m ++ (⟨#[58, 32, 48, 120]⟩ : ByteArray) ++ hexB (m.payload.toList.take m.size.toNat)) := by show _ = _; unfold descM; rw [if_neg q2, if_pos q1]
      go_wp2_with fail
      refine (payloadOf_any W5 m h32).mono ?_
      rintro e W6 ⟨g, rfl, hg, he⟩
      have HE6 : Hid (w.Extends W6) := HE5.out.trans he
      clear he
      go_wp2_with fail
      refine (hexOf_any W6 g 0 m.size.toNat m.size.toNat _ (m.payload.toList.take m.size.toNat) hg (by simp; omega) (by unfold seg; rw [List.drop_zero, List.take_of_length_le (by rw [length_bv]; simp; omega)]) (by rw [length_bv]; simp; omega) h32).mono ?_
      rintro e W7 ⟨rfl, he⟩
      go_wp2_with fail
      go_ret
      refine ⟨?_, HE6.out.trans he⟩
      rw [HF.out, ← HH.out]
      rfl
    · have HF : Hid (descM m = headM m) := by show _ = _; unfold descM; rw [if_neg q2, if_neg q1]
      have q2b : (w8 m.kind == 2) = false := by simp [q2]
      have q1b : (w8 m.kind == 1) = false := by simp [q1]
      go_wp2_with fail
      go_ret
      refine ⟨?_, HE5.out⟩
      rw [HF.out, ← HH.out]
      rfl
end Go.Proofs.Qxb6500786a
