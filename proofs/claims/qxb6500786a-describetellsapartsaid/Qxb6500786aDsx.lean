import Derived.Test.Qxb6500786aDsm
import Derived.StillTailTactics
import Derived.Deep.QuietTactic
import Derived.BigQuiet
import Derived.Deep.RegionHeld
import Derived.Deep.CutRange
import Derived.Laws.ResultCell
import Derived.Laws.Rows
import Derived.DeepKeys
import Derived.DataBytes
import Derived.Laws.StructEq
import Derived.Laws.AppendOwn
set_option linter.unusedSimpArgs false
set_option linter.unusedVariables false
namespace Go.Proofs.Qxb6500786a
open Go.RowKit Go.Blk
attribute [local go_sem ↓] execOp_load execOp_store execOp_alloc
attribute [local go_sem] Try.ld33 Try.st33 Try.ld24 Try.st24 Try.ld29 Try.st29 Try.ld30 Try.st30 Try.ld31 Try.st31 Try.ld5 Try.st5 Try.ld28 Try.st28 Try.ld27 Try.st27 Try.ld26 Try.st26 Try.ld2 Try.st2 Try.ld3 Try.st3 Try.ld4 Try.st4 Try.ld9 Try.st9 Try.ld12 Try.st12 Try.ld21 Try.st21 Try.ld22 Try.st22 Try.ld41 Try.st41 Try.ld50 Try.st50 Try.ld55 Try.st55 Try.ld63 Try.st63 Try.ld78 Try.st78 Try.ld87 Try.st87 Try.ld91 Try.st91 Try.ld32 Try.st32 Try.ld47 Try.st47 Try.ld52 Try.st52 Try.ld71 Try.st71 Try.ld35 Try.st35 Try.ld37 Try.st37 Try.ld39 Try.st39 Try.al32 Try.al47 Try.al52 Try.al71 Try.al35 Try.al37 Try.al39
attribute [local go_sem] Message.length_enc Message.ok_enc Message.all_get Message.all_set Message.kind_get Message.kind_set Message.from__get Message.from__set Message.to__get Message.to__set Message.sender_get Message.sender_set Message.receiver_get Message.receiver_set Message.seq_get Message.seq_set Message.token_get Message.token_set Message.amount_get Message.amount_set Message.size_get Message.size_set Message.payload_get Message.payload_set Tx.length_enc Tx.ok_enc Tx.all_get Tx.all_set Tx.kind_get Tx.kind_set Tx.chain_get Tx.chain_set Tx.from__get Tx.from__set Tx.nonce_get Tx.nonce_set Tx.fee_get Tx.fee_set Tx.to__get Tx.to__set Tx.dest_get Tx.dest_set Tx.token_get Tx.token_set Tx.amount_get Tx.amount_set Tx.size_get Tx.size_set Tx.payload_get Tx.payload_set Tx.msg_get Tx.msg_set Tx.msg_kind_get Tx.msg_kind_set Tx.msg_from__get Tx.msg_from__set Tx.msg_to__get Tx.msg_to__set Tx.msg_sender_get Tx.msg_sender_set Tx.msg_receiver_get Tx.msg_receiver_set Tx.msg_seq_get Tx.msg_seq_set Tx.msg_token_get Tx.msg_token_set Tx.msg_amount_get Tx.msg_amount_set Tx.msg_size_get Tx.msg_size_set Tx.msg_payload_get Tx.msg_payload_set GOp.length_enc GOp.ok_enc GOp.all_get GOp.all_set GOp.kind_get GOp.kind_set GOp.tx_get GOp.tx_set GOp.txs_get GOp.txs_set GOp.gas_get GOp.gas_set GOp.acct_get GOp.acct_set GOp.token_get GOp.token_set GOp.chain_get GOp.chain_set GOp.seq_get GOp.seq_set GOp.tx_kind_get GOp.tx_kind_set GOp.tx_chain_get GOp.tx_chain_set GOp.tx_from__get GOp.tx_from__set GOp.tx_nonce_get GOp.tx_nonce_set GOp.tx_fee_get GOp.tx_fee_set GOp.tx_to__get GOp.tx_to__set GOp.tx_dest_get GOp.tx_dest_set GOp.tx_token_get GOp.tx_token_set GOp.tx_amount_get GOp.tx_amount_set GOp.tx_size_get GOp.tx_size_set GOp.tx_payload_get GOp.tx_payload_set GOp.tx_msg_get GOp.tx_msg_set GOp.tx_msg_kind_get GOp.tx_msg_kind_set GOp.tx_msg_from__get GOp.tx_msg_from__set GOp.tx_msg_to__get GOp.tx_msg_to__set GOp.tx_msg_sender_get GOp.tx_msg_sender_set GOp.tx_msg_receiver_get GOp.tx_msg_receiver_set GOp.tx_msg_seq_get GOp.tx_msg_seq_set GOp.tx_msg_token_get GOp.tx_msg_token_set GOp.tx_msg_amount_get GOp.tx_msg_amount_set GOp.tx_msg_size_get GOp.tx_msg_size_set GOp.tx_msg_payload_get GOp.tx_msg_payload_set
attribute [local go_sem] size_put size_ext blk_put free_put blk_alloc free_alloc blk_drew free_drew blk_ext free_ext lookOr_some putOr_some segAt_some cellAt_some storeIn_some put_put put_alloc_new length_arr ok_arr_u8 ok_arr_u32 ok_arr_u64 ok_arr_i64 ok_arr_sl cellsV_agg cellsV_int cellsV_bool cellsV_string cellsV_pointer cellsV_slice cellsV_sl ok_int ok_bool ok_string ok_pointer ok_slice ok_sl toList_arr seg_arr set_arr nth_splice nth_splice0 seg_splice seg_splice0 splice_splice splice_splice0 length_splice_if
attribute [local go_sem ↓] execOp_box
attribute [local go_sem] box_run nth_arr_u8 put_arr_u8
theorem size_descM (m : Message) (h32 : m.size.toNat ≤ 32) : (descM m).size ≤ 300 := by
  unfold descM
  split
  · exact Nat.le_trans (size_cat (size_cat (size_headM m) (n := 2) (by decide)) (size_value (w8_lt _) (w64_lt _))) (by decide)
  · split
    · exact Nat.le_trans (size_cat (size_cat (size_headM m) (n := 4) (by decide)) (size_hex (n := 32) (by rw [List.length_take]; omega))) (by decide)
    · exact Nat.le_trans (size_headM m) (by decide)
def headX (x : Tx) : ByteArray := kindB x.kind.toNat ++ (⟨#[32, 98, 121, 32]⟩ : ByteArray) ++ (partyB x.chain.toNat x.from_.toNat) ++ (⟨#[32, 110, 111, 110, 99, 101, 32]⟩ : ByteArray) ++ (itoaB x.nonce.toNat) ++ (⟨#[32, 102, 101, 101, 32]⟩ : ByteArray) ++ (itoaB x.fee.toNat)
theorem size_headX (x : Tx) : (headX x).size ≤ 200 := Nat.le_trans (size_cat (size_cat (size_cat (size_cat (size_cat (size_cat (size_kind (w8_lt x.kind)) ((by decide : ByteArray.size (⟨#[32, 98, 121, 32]⟩ : ByteArray) ≤ 4))) (size_party (w8_lt x.chain) (w8_lt x.from_))) ((by decide : ByteArray.size (⟨#[32, 110, 111, 110, 99, 101, 32]⟩ : ByteArray) ≤ 7))) (size_itoa (w64_lt x.nonce))) ((by decide : ByteArray.size (⟨#[32, 102, 101, 101, 32]⟩ : ByteArray) ≤ 5))) (size_itoa (w64_lt x.fee))) (by decide)
def descX (x : Tx) : ByteArray := if w8 x.kind = 1 then headX x ++ (⟨#[58, 32]⟩ : ByteArray) ++ valueB x.token.toNat x.amount.toNat ++ (⟨#[32, 116, 111, 32]⟩ : ByteArray) ++ partyB x.chain.toNat x.to_.toNat else if w8 x.kind = 2 then headX x ++ (⟨#[58, 32]⟩ : ByteArray) ++ valueB x.token.toNat x.amount.toNat ++ (⟨#[32, 102, 111, 114, 32]⟩ : ByteArray) ++ partyB x.dest.toNat x.to_.toNat else if w8 x.kind = 4 then headX x ++ (⟨#[58, 32, 48, 120]⟩ : ByteArray) ++ hexB (x.payload.toList.take x.size.toNat) ++ (⟨#[32, 116, 111, 32]⟩ : ByteArray) ++ partyB x.dest.toNat x.to_.toNat else if w8 x.kind = 3 ∨ w8 x.kind = 5 then headX x ++ (⟨#[58, 32]⟩ : ByteArray) ++ descM x.msg else headX x
attribute [local go_sem ↓] execOp_index execOp_convert execOp_slice execOp_add9 execOp_make execOp_bslice2 execOp_copy
attribute [local go_sem] index_hex Try.sl71lo add_run bslice63 Try.sl32hi64 Try.cpv copyOrV_some Try.cp63 copyOr_some copyIn_some srcB_drew length_bv one_bv
set_option maxRecDepth 20000 in
set_option maxHeartbeats 2000000 in
theorem descX_any (w : World) (x : Tx) (h32 : x.size.toNat ≤ 32) (hm32 : x.msg.size.toNat ≤ 32) : Calls Try.prog 11 #[.agg x.enc.toArray] w fun e w' => e = .returned (.string (descX x)) ∧ w.Extends w' := by
  have r0 : room (kindB x.kind.toNat) (⟨#[32, 98, 121, 32]⟩ : ByteArray) = true := room_of (size_kind (w8_lt x.kind)) ((by decide : ByteArray.size (⟨#[32, 98, 121, 32]⟩ : ByteArray) ≤ 4)) (by decide)
  have r1 : room (kindB x.kind.toNat ++ (⟨#[32, 98, 121, 32]⟩ : ByteArray)) (partyB x.chain.toNat x.from_.toNat) = true := room_of (size_cat (size_kind (w8_lt x.kind)) ((by decide : ByteArray.size (⟨#[32, 98, 121, 32]⟩ : ByteArray) ≤ 4))) (size_party (w8_lt x.chain) (w8_lt x.from_)) (by decide)
  have r2 : room (kindB x.kind.toNat ++ (⟨#[32, 98, 121, 32]⟩ : ByteArray) ++ (partyB x.chain.toNat x.from_.toNat)) (⟨#[32, 110, 111, 110, 99, 101, 32]⟩ : ByteArray) = true := room_of (size_cat (size_cat (size_kind (w8_lt x.kind)) ((by decide : ByteArray.size (⟨#[32, 98, 121, 32]⟩ : ByteArray) ≤ 4))) (size_party (w8_lt x.chain) (w8_lt x.from_))) ((by decide : ByteArray.size (⟨#[32, 110, 111, 110, 99, 101, 32]⟩ : ByteArray) ≤ 7)) (by decide)
  have r3 : room (kindB x.kind.toNat ++ (⟨#[32, 98, 121, 32]⟩ : ByteArray) ++ (partyB x.chain.toNat x.from_.toNat) ++ (⟨#[32, 110, 111, 110, 99, 101, 32]⟩ : ByteArray)) (itoaB x.nonce.toNat) = true := room_of (size_cat (size_cat (size_cat (size_kind (w8_lt x.kind)) ((by decide : ByteArray.size (⟨#[32, 98, 121, 32]⟩ : ByteArray) ≤ 4))) (size_party (w8_lt x.chain) (w8_lt x.from_))) ((by decide : ByteArray.size (⟨#[32, 110, 111, 110, 99, 101, 32]⟩ : ByteArray) ≤ 7))) (size_itoa (w64_lt x.nonce)) (by decide)
  have r4 : room (kindB x.kind.toNat ++ (⟨#[32, 98, 121, 32]⟩ : ByteArray) ++ (partyB x.chain.toNat x.from_.toNat) ++ (⟨#[32, 110, 111, 110, 99, 101, 32]⟩ : ByteArray) ++ (itoaB x.nonce.toNat)) (⟨#[32, 102, 101, 101, 32]⟩ : ByteArray) = true := room_of (size_cat (size_cat (size_cat (size_cat (size_kind (w8_lt x.kind)) ((by decide : ByteArray.size (⟨#[32, 98, 121, 32]⟩ : ByteArray) ≤ 4))) (size_party (w8_lt x.chain) (w8_lt x.from_))) ((by decide : ByteArray.size (⟨#[32, 110, 111, 110, 99, 101, 32]⟩ : ByteArray) ≤ 7))) (size_itoa (w64_lt x.nonce))) ((by decide : ByteArray.size (⟨#[32, 102, 101, 101, 32]⟩ : ByteArray) ≤ 5)) (by decide)
  have r5 : room (kindB x.kind.toNat ++ (⟨#[32, 98, 121, 32]⟩ : ByteArray) ++ (partyB x.chain.toNat x.from_.toNat) ++ (⟨#[32, 110, 111, 110, 99, 101, 32]⟩ : ByteArray) ++ (itoaB x.nonce.toNat) ++ (⟨#[32, 102, 101, 101, 32]⟩ : ByteArray)) (itoaB x.fee.toNat) = true := room_of (size_cat (size_cat (size_cat (size_cat (size_cat (size_kind (w8_lt x.kind)) ((by decide : ByteArray.size (⟨#[32, 98, 121, 32]⟩ : ByteArray) ≤ 4))) (size_party (w8_lt x.chain) (w8_lt x.from_))) ((by decide : ByteArray.size (⟨#[32, 110, 111, 110, 99, 101, 32]⟩ : ByteArray) ≤ 7))) (size_itoa (w64_lt x.nonce))) ((by decide : ByteArray.size (⟨#[32, 102, 101, 101, 32]⟩ : ByteArray) ≤ 5))) (size_itoa (w64_lt x.fee)) (by decide)
  go_enter Try.func11, Try.ntmps11
  go_upto_region 1 with fail
  refine wp_world (fun W1 => blk W1 w.heap.size = some x.enc ∧ Hid (w.Extends W1)) ⟨?_, extends_alloc (ext_Ext (Ext.refl w)) _⟩ ?_
  · rw [blk_alloc, if_pos rfl]
  obtain ⟨bx, hbx⟩ : ∃ bx, bx = w.heap.size := ⟨_, rfl⟩
  rw [← hbx]
  clear hbx
  rintro W1 ⟨h1, HE1⟩
  refine wp_region_held_drew (S := fun W' => blk W' bx = some x.enc ∧ True) (by kernel_rfl) ⟨h1, trivial⟩ (fun hHeld => ?_)
  have h1d : blk W1.drew bx = some x.enc := h1
  have HE1d : Hid (w.Extends W1.drew) := extends_drew HE1.out
  refine wpAnyH_take (i := 0) (oi := ⟨_, _, _, _, _, _⟩) (v := ?_) rfl (by kernel_rfl) (by kernel_rfl) (by kernel_rfl) (fun _ _ _ h => h) (Or.inl ⟨by rfl, ?_⟩) (by assumption) ?_
  rotate_left 1
  · intro W' hSw
    obtain ⟨hS1, hS2⟩ := hSw
    go_simp
    try with_reducible rfl
  try simp only [Act.put, List.setIfInBounds_toArray, List.set_cons_zero, List.set_cons_succ]
  refine wpAnyH_take (i := 1) (oi := ⟨_, _, _, _, _, _⟩) (v := ?_) rfl (by kernel_rfl) (by kernel_rfl) (by kernel_rfl) (fun _ _ _ h => h) (Or.inl ⟨by rfl, ?_⟩) (by assumption) ?_
  rotate_left 1
  · intro W' hSw
    obtain ⟨hS1, hS2⟩ := hSw
    go_simp
    try with_reducible rfl
  try simp only [Act.put, List.setIfInBounds_toArray, List.set_cons_zero, List.set_cons_succ]
  refine wpAnyH_take (i := 4) (oi := ⟨_, _, _, _, _, _⟩) (v := ?_) rfl (by kernel_rfl) (by kernel_rfl) (by kernel_rfl) (fun _ _ _ h => h) (Or.inl ⟨by rfl, ?_⟩) (by assumption) ?_
  rotate_left 1
  · intro W' hSw
    obtain ⟨hS1, hS2⟩ := hSw
    go_simp
    try with_reducible rfl
  try simp only [Act.put, List.setIfInBounds_toArray, List.set_cons_zero, List.set_cons_succ]
  refine wpAnyH_take (i := 5) (oi := ⟨_, _, _, _, _, _⟩) (v := ?_) rfl (by kernel_rfl) (by kernel_rfl) (by kernel_rfl) (fun _ _ _ h => h) (Or.inl ⟨by rfl, ?_⟩) (by assumption) ?_
  rotate_left 1
  · intro W' hSw
    obtain ⟨hS1, hS2⟩ := hSw
    go_simp
    try with_reducible rfl
  try simp only [Act.put, List.setIfInBounds_toArray, List.set_cons_zero, List.set_cons_succ]
  refine wpAnyH_take (i := 6) (oi := ⟨_, _, _, _, _, _⟩) (v := ?_) rfl (by kernel_rfl) (by kernel_rfl) (by kernel_rfl) (fun _ _ _ h => h) (Or.inl ⟨by rfl, ?_⟩) (by assumption) ?_
  rotate_left 1
  · intro W' hSw
    obtain ⟨hS1, hS2⟩ := hSw
    go_simp
    try with_reducible rfl
  try simp only [Act.put, List.setIfInBounds_toArray, List.set_cons_zero, List.set_cons_succ]
  refine wpAnyH_take (i := 7) (oi := ⟨_, _, _, _, _, _⟩) (v := ?_) rfl (by kernel_rfl) (by kernel_rfl) (by kernel_rfl) (fun _ _ _ h => h) (Or.inl ⟨by rfl, ?_⟩) (by assumption) ?_
  rotate_left 1
  · intro W' hSw
    obtain ⟨hS1, hS2⟩ := hSw
    go_simp
    try with_reducible rfl
  try simp only [Act.put, List.setIfInBounds_toArray, List.set_cons_zero, List.set_cons_succ]
  refine wpAnyH_take (i := 11) (oi := ⟨_, _, _, _, _, _⟩) (v := ?_) rfl (by kernel_rfl) (by kernel_rfl) (by kernel_rfl) (fun _ _ _ h => h) (Or.inl ⟨by rfl, ?_⟩) (by assumption) ?_
  rotate_left 1
  · intro W' hSw
    obtain ⟨hS1, hS2⟩ := hSw
    go_simp
    try with_reducible rfl
  try simp only [Act.put, List.setIfInBounds_toArray, List.set_cons_zero, List.set_cons_succ]
  refine wpAnyH_take (i := 12) (oi := ⟨_, _, _, _, _, _⟩) (v := ?_) rfl (by kernel_rfl) (by kernel_rfl) (by kernel_rfl) (fun _ _ _ h => h) (Or.inl ⟨by rfl, ?_⟩) (by assumption) ?_
  rotate_left 1
  · intro W' hSw
    obtain ⟨hS1, hS2⟩ := hSw
    go_simp
    try with_reducible rfl
  try simp only [Act.put, List.setIfInBounds_toArray, List.set_cons_zero, List.set_cons_succ]
  refine wpAnyH_take (i := 16) (oi := ⟨_, _, _, _, _, _⟩) (v := ?_) rfl (by kernel_rfl) (by kernel_rfl) (by kernel_rfl) (fun _ _ _ h => h) (Or.inl ⟨by rfl, ?_⟩) (by assumption) ?_
  rotate_left 1
  · intro W' hSw
    obtain ⟨hS1, hS2⟩ := hSw
    go_simp
    try with_reducible rfl
  try simp only [Act.put, List.setIfInBounds_toArray, List.set_cons_zero, List.set_cons_succ]
  refine wpAnyH_take (i := 17) (oi := ⟨_, _, _, _, _, _⟩) (v := ?_) rfl (by kernel_rfl) (by kernel_rfl) (by kernel_rfl) (fun _ _ _ h => h) (Or.inl ⟨by rfl, ?_⟩) (by assumption) ?_
  rotate_left 1
  · intro W' hSw
    obtain ⟨hS1, hS2⟩ := hSw
    go_simp
    try with_reducible rfl
  try simp only [Act.put, List.setIfInBounds_toArray, List.set_cons_zero, List.set_cons_succ]
  refine wpAnyH_ready (rs := [2]) (by kernel_rfl) (by simp) ?_
  refine AllReadyH.cons (o := ⟨_, _, _, _, _, _⟩) rfl (fun K hK => ?_) AllReadyH.nil
  go_simp
  refine (kind_any W1.drew x.kind.toNat (w8_lt _)).mono ?_
  rintro e W2 ⟨rfl, he⟩
  have h2 : blk W2 bx = some x.enc := (he.blk (blk_lt h1d)).trans h1d
  have HE2 : Hid (w.Extends W2) := HE1d.out.trans (ext_Ext he)
  clear he
  dsimp only
  refine hK.out _ _ ?_ (fun hHeld => ?_)
  · exact ⟨h2, trivial⟩
  clear hK K
  try simp only [Act.put, List.setIfInBounds_toArray, List.set_cons_zero, List.set_cons_succ]
  refine wpAnyH_take (i := 3) (oi := ⟨_, _, _, _, _, _⟩) (v := ?_) rfl (by kernel_rfl) (by kernel_rfl) (by kernel_rfl) (fun _ _ _ h => h) (Or.inl ⟨by rfl, ?_⟩) (by assumption) ?_
  rotate_left 1
  · intro W' hSw
    obtain ⟨hS1, hS2⟩ := hSw
    go_simp
    try with_reducible rfl
  try simp only [Act.put, List.setIfInBounds_toArray, List.set_cons_zero, List.set_cons_succ]
  refine wpAnyH_ready (rs := [8]) (by kernel_rfl) (by simp) ?_
  refine AllReadyH.cons (o := ⟨_, _, _, _, _, _⟩) rfl (fun K hK => ?_) AllReadyH.nil
  go_simp
  refine (party_any W2 x.chain.toNat x.from_.toNat (w8_lt _) (w8_lt _)).mono ?_
  rintro e W3 ⟨rfl, he⟩
  have h3 : blk W3 bx = some x.enc := (he.blk (blk_lt h2)).trans h2
  have HE3 : Hid (w.Extends W3) := HE2.out.trans (ext_Ext he)
  clear he
  dsimp only
  refine hK.out _ _ ?_ (fun hHeld => ?_)
  · exact ⟨h3, trivial⟩
  clear hK K
  try simp only [Act.put, List.setIfInBounds_toArray, List.set_cons_zero, List.set_cons_succ]
  refine wpAnyH_take (i := 9) (oi := ⟨_, _, _, _, _, _⟩) (v := ?_) rfl (by kernel_rfl) (by kernel_rfl) (by kernel_rfl) (fun _ _ _ h => h) (Or.inl ⟨by rfl, ?_⟩) (by assumption) ?_
  rotate_left 1
  · intro W' hSw
    obtain ⟨hS1, hS2⟩ := hSw
    go_simp
    try with_reducible rfl
  try simp only [Act.put, List.setIfInBounds_toArray, List.set_cons_zero, List.set_cons_succ]
  refine wpAnyH_take (i := 10) (oi := ⟨_, _, _, _, _, _⟩) (v := ?_) rfl (by kernel_rfl) (by kernel_rfl) (by kernel_rfl) (fun _ _ _ h => h) (Or.inl ⟨by rfl, ?_⟩) (by assumption) ?_
  rotate_left 1
  · intro W' hSw
    obtain ⟨hS1, hS2⟩ := hSw
    go_simp
    try with_reducible rfl
  try simp only [Act.put, List.setIfInBounds_toArray, List.set_cons_zero, List.set_cons_succ]
  refine wpAnyH_ready (rs := [13]) (by kernel_rfl) (by simp) ?_
  refine AllReadyH.cons (o := ⟨_, _, _, _, _, _⟩) rfl (fun K hK => ?_) AllReadyH.nil
  go_simp
  refine (itoa_any W3 x.nonce.toNat (w64_lt _)).mono ?_
  rintro e W4 ⟨rfl, he⟩
  have h4 : blk W4 bx = some x.enc := (he.blk (blk_lt h3)).trans h3
  have HE4 : Hid (w.Extends W4) := HE3.out.trans (ext_Ext he)
  clear he
  dsimp only
  refine hK.out _ _ ?_ (fun hHeld => ?_)
  · exact ⟨h4, trivial⟩
  clear hK K
  try simp only [Act.put, List.setIfInBounds_toArray, List.set_cons_zero, List.set_cons_succ]
  refine wpAnyH_take (i := 14) (oi := ⟨_, _, _, _, _, _⟩) (v := ?_) rfl (by kernel_rfl) (by kernel_rfl) (by kernel_rfl) (fun _ _ _ h => h) (Or.inl ⟨by rfl, ?_⟩) (by assumption) ?_
  rotate_left 1
  · intro W' hSw
    obtain ⟨hS1, hS2⟩ := hSw
    go_simp
    try with_reducible rfl
  try simp only [Act.put, List.setIfInBounds_toArray, List.set_cons_zero, List.set_cons_succ]
  refine wpAnyH_take (i := 15) (oi := ⟨_, _, _, _, _, _⟩) (v := ?_) rfl (by kernel_rfl) (by kernel_rfl) (by kernel_rfl) (fun _ _ _ h => h) (Or.inl ⟨by rfl, ?_⟩) (by assumption) ?_
  rotate_left 1
  · intro W' hSw
    obtain ⟨hS1, hS2⟩ := hSw
    go_simp
    try with_reducible rfl
  try simp only [Act.put, List.setIfInBounds_toArray, List.set_cons_zero, List.set_cons_succ]
  refine wpAnyH_ready (rs := [18]) (by kernel_rfl) (by simp) ?_
  refine AllReadyH.cons (o := ⟨_, _, _, _, _, _⟩) rfl (fun K hK => ?_) AllReadyH.nil
  go_simp
  refine (itoa_any W4 x.fee.toNat (w64_lt _)).mono ?_
  rintro e W5 ⟨rfl, he⟩
  have h5 : blk W5 bx = some x.enc := (he.blk (blk_lt h4)).trans h4
  have HE5 : Hid (w.Extends W5) := HE4.out.trans (ext_Ext he)
  clear he
  dsimp only
  refine hK.out _ _ ?_ (fun hHeld => ?_)
  · exact ⟨h5, trivial⟩
  clear hK K
  try simp only [Act.put, List.setIfInBounds_toArray, List.set_cons_zero, List.set_cons_succ]
  refine wpAnyH_take (i := 19) (oi := ⟨_, _, _, _, _, _⟩) (v := ?_) rfl (by kernel_rfl) (by kernel_rfl) (by kernel_rfl) (fun _ _ _ h => h) (Or.inl ⟨by rfl, ?_⟩) (by assumption) ?_
  rotate_left 1
  · intro W' hSw
    obtain ⟨hS1, hS2⟩ := hSw
    go_simp
    try with_reducible rfl
  try simp only [Act.put, List.setIfInBounds_toArray, List.set_cons_zero, List.set_cons_succ]
  refine wpAnyH_take (i := 20) (oi := ⟨_, _, _, _, _, _⟩) (v := ?_) rfl (by kernel_rfl) (by kernel_rfl) (by kernel_rfl) (fun _ _ _ h => h) (Or.inl ⟨by rfl, ?_⟩) (by assumption) ?_
  rotate_left 1
  · intro W' hSw
    obtain ⟨hS1, hS2⟩ := hSw
    go_simp
    try with_reducible rfl
  try simp only [Act.put, List.setIfInBounds_toArray, List.set_cons_zero, List.set_cons_succ]
  refine wpAnyH_done (by kernel_rfl) ?_ _
  obtain ⟨H, hH⟩ : ∃ H, H = headX x := ⟨_, rfl⟩
  have hHs : H.size ≤ 200 := by rw [hH]; exact size_headX x
  have hHe : kindB x.kind.toNat ++ (⟨#[32, 98, 121, 32]⟩ : ByteArray) ++ (partyB x.chain.toNat x.from_.toNat) ++ (⟨#[32, 110, 111, 110, 99, 101, 32]⟩ : ByteArray) ++ (itoaB x.nonce.toNat) ++ (⟨#[32, 102, 101, 101, 32]⟩ : ByteArray) ++ (itoaB x.fee.toNat) = H := hH.symm
  rw [hHe]
  have HH : Hid (H = headX x) := hH
  clear hH hHe r0 r1 r2 r3 r4 r5
  clear h1 h1d HE1 HE1d h2 h3 h4 HE2 HE3 HE4
  by_cases q1 : w8 x.kind = 1
  · skip
    have k0 : room (H) (⟨#[58, 32]⟩ : ByteArray) = true := room_of (hHs) ((by decide : ByteArray.size (⟨#[58, 32]⟩ : ByteArray) ≤ 2)) (by decide)
    have k1 : room (H ++ (⟨#[58, 32]⟩ : ByteArray)) (valueB x.token.toNat x.amount.toNat) = true := room_of (size_cat (hHs) ((by decide : ByteArray.size (⟨#[58, 32]⟩ : ByteArray) ≤ 2))) (size_value (w8_lt x.token) (w64_lt x.amount)) (by decide)
    have k2 : room (H ++ (⟨#[58, 32]⟩ : ByteArray) ++ (valueB x.token.toNat x.amount.toNat)) (⟨#[32, 116, 111, 32]⟩ : ByteArray) = true := room_of (size_cat (size_cat (hHs) ((by decide : ByteArray.size (⟨#[58, 32]⟩ : ByteArray) ≤ 2))) (size_value (w8_lt x.token) (w64_lt x.amount))) ((by decide : ByteArray.size (⟨#[32, 116, 111, 32]⟩ : ByteArray) ≤ 4)) (by decide)
    have k3 : room (H ++ (⟨#[58, 32]⟩ : ByteArray) ++ (valueB x.token.toNat x.amount.toNat) ++ (⟨#[32, 116, 111, 32]⟩ : ByteArray)) (partyB x.chain.toNat x.to_.toNat) = true := room_of (size_cat (size_cat (size_cat (hHs) ((by decide : ByteArray.size (⟨#[58, 32]⟩ : ByteArray) ≤ 2))) (size_value (w8_lt x.token) (w64_lt x.amount))) ((by decide : ByteArray.size (⟨#[32, 116, 111, 32]⟩ : ByteArray) ≤ 4))) (size_party (w8_lt x.chain) (w8_lt x.to_)) (by decide)
    have HF : Hid (descX x = headX x ++ (⟨#[58, 32]⟩ : ByteArray) ++ valueB x.token.toNat x.amount.toNat ++ (⟨#[32, 116, 111, 32]⟩ : ByteArray) ++ partyB x.chain.toNat x.to_.toNat) := by show _ = _; unfold descX; rw [if_pos q1]
    go_wp2_with fail
    refine wp_region_held_drew (S := fun W' => blk W' bx = some x.enc ∧ True) (by kernel_rfl) ⟨h5, trivial⟩ (fun hHeld => ?_)
    have h5d : blk W5.drew bx = some x.enc := h5
    have HE5d : Hid (w.Extends W5.drew) := extends_drew HE5.out
    refine wpAnyH_take (i := 0) (oi := ⟨_, _, _, _, _, _⟩) (v := ?_) rfl (by kernel_rfl) (by kernel_rfl) (by kernel_rfl) (fun _ _ _ h => h) (Or.inl ⟨by rfl, ?_⟩) (by assumption) ?_
    rotate_left 1
    · intro W' hSw
      obtain ⟨hS1, hS2⟩ := hSw
      go_simp
      try with_reducible rfl
    try simp only [Act.put, List.setIfInBounds_toArray, List.set_cons_zero, List.set_cons_succ]
    refine wpAnyH_take (i := 1) (oi := ⟨_, _, _, _, _, _⟩) (v := ?_) rfl (by kernel_rfl) (by kernel_rfl) (by kernel_rfl) (fun _ _ _ h => h) (Or.inl ⟨by rfl, ?_⟩) (by assumption) ?_
    rotate_left 1
    · intro W' hSw
      obtain ⟨hS1, hS2⟩ := hSw
      go_simp
      try with_reducible rfl
    try simp only [Act.put, List.setIfInBounds_toArray, List.set_cons_zero, List.set_cons_succ]
    refine wpAnyH_take (i := 2) (oi := ⟨_, _, _, _, _, _⟩) (v := ?_) rfl (by kernel_rfl) (by kernel_rfl) (by kernel_rfl) (fun _ _ _ h => h) (Or.inl ⟨by rfl, ?_⟩) (by assumption) ?_
    rotate_left 1
    · intro W' hSw
      obtain ⟨hS1, hS2⟩ := hSw
      go_simp
      try with_reducible rfl
    try simp only [Act.put, List.setIfInBounds_toArray, List.set_cons_zero, List.set_cons_succ]
    refine wpAnyH_take (i := 3) (oi := ⟨_, _, _, _, _, _⟩) (v := ?_) rfl (by kernel_rfl) (by kernel_rfl) (by kernel_rfl) (fun _ _ _ h => h) (Or.inl ⟨by rfl, ?_⟩) (by assumption) ?_
    rotate_left 1
    · intro W' hSw
      obtain ⟨hS1, hS2⟩ := hSw
      go_simp
      try with_reducible rfl
    try simp only [Act.put, List.setIfInBounds_toArray, List.set_cons_zero, List.set_cons_succ]
    refine wpAnyH_take (i := 4) (oi := ⟨_, _, _, _, _, _⟩) (v := ?_) rfl (by kernel_rfl) (by kernel_rfl) (by kernel_rfl) (fun _ _ _ h => h) (Or.inl ⟨by rfl, ?_⟩) (by assumption) ?_
    rotate_left 1
    · intro W' hSw
      obtain ⟨hS1, hS2⟩ := hSw
      go_simp
      try with_reducible rfl
    try simp only [Act.put, List.setIfInBounds_toArray, List.set_cons_zero, List.set_cons_succ]
    refine wpAnyH_take (i := 5) (oi := ⟨_, _, _, _, _, _⟩) (v := ?_) rfl (by kernel_rfl) (by kernel_rfl) (by kernel_rfl) (fun _ _ _ h => h) (Or.inl ⟨by rfl, ?_⟩) (by assumption) ?_
    rotate_left 1
    · intro W' hSw
      obtain ⟨hS1, hS2⟩ := hSw
      go_simp
      try with_reducible rfl
    try simp only [Act.put, List.setIfInBounds_toArray, List.set_cons_zero, List.set_cons_succ]
    refine wpAnyH_take (i := 9) (oi := ⟨_, _, _, _, _, _⟩) (v := ?_) rfl (by kernel_rfl) (by kernel_rfl) (by kernel_rfl) (fun _ _ _ h => h) (Or.inl ⟨by rfl, ?_⟩) (by assumption) ?_
    rotate_left 1
    · intro W' hSw
      obtain ⟨hS1, hS2⟩ := hSw
      go_simp
      try with_reducible rfl
    try simp only [Act.put, List.setIfInBounds_toArray, List.set_cons_zero, List.set_cons_succ]
    refine wpAnyH_take (i := 10) (oi := ⟨_, _, _, _, _, _⟩) (v := ?_) rfl (by kernel_rfl) (by kernel_rfl) (by kernel_rfl) (fun _ _ _ h => h) (Or.inl ⟨by rfl, ?_⟩) (by assumption) ?_
    rotate_left 1
    · intro W' hSw
      obtain ⟨hS1, hS2⟩ := hSw
      go_simp
      try with_reducible rfl
    try simp only [Act.put, List.setIfInBounds_toArray, List.set_cons_zero, List.set_cons_succ]
    refine wpAnyH_take (i := 11) (oi := ⟨_, _, _, _, _, _⟩) (v := ?_) rfl (by kernel_rfl) (by kernel_rfl) (by kernel_rfl) (fun _ _ _ h => h) (Or.inl ⟨by rfl, ?_⟩) (by assumption) ?_
    rotate_left 1
    · intro W' hSw
      obtain ⟨hS1, hS2⟩ := hSw
      go_simp
      try with_reducible rfl
    try simp only [Act.put, List.setIfInBounds_toArray, List.set_cons_zero, List.set_cons_succ]
    refine wpAnyH_take (i := 12) (oi := ⟨_, _, _, _, _, _⟩) (v := ?_) rfl (by kernel_rfl) (by kernel_rfl) (by kernel_rfl) (fun _ _ _ h => h) (Or.inl ⟨by rfl, ?_⟩) (by assumption) ?_
    rotate_left 1
    · intro W' hSw
      obtain ⟨hS1, hS2⟩ := hSw
      go_simp
      try with_reducible rfl
    try simp only [Act.put, List.setIfInBounds_toArray, List.set_cons_zero, List.set_cons_succ]
    refine wpAnyH_ready (rs := [6]) (by kernel_rfl) (by simp) ?_
    refine AllReadyH.cons (o := ⟨_, _, _, _, _, _⟩) rfl (fun K hK => ?_) AllReadyH.nil
    go_simp
    refine (value_any W5.drew x.token.toNat x.amount.toNat (w8_lt _) (w64_lt _)).mono ?_
    rintro e W6 ⟨rfl, he⟩
    have h6 : blk W6 bx = some x.enc := (he.blk (blk_lt h5d)).trans h5d
    have HE6 : Hid (w.Extends W6) := HE5d.out.trans (ext_Ext he)
    clear he
    dsimp only
    refine hK.out _ _ ?_ (fun hHeld => ?_)
    · exact ⟨h6, trivial⟩
    clear hK K
    try simp only [Act.put, List.setIfInBounds_toArray, List.set_cons_zero, List.set_cons_succ]
    refine wpAnyH_take (i := 7) (oi := ⟨_, _, _, _, _, _⟩) (v := ?_) rfl (by kernel_rfl) (by kernel_rfl) (by kernel_rfl) (fun _ _ _ h => h) (Or.inl ⟨by rfl, ?_⟩) (by assumption) ?_
    rotate_left 1
    · intro W' hSw
      obtain ⟨hS1, hS2⟩ := hSw
      go_simp
      try with_reducible rfl
    try simp only [Act.put, List.setIfInBounds_toArray, List.set_cons_zero, List.set_cons_succ]
    refine wpAnyH_take (i := 8) (oi := ⟨_, _, _, _, _, _⟩) (v := ?_) rfl (by kernel_rfl) (by kernel_rfl) (by kernel_rfl) (fun _ _ _ h => h) (Or.inl ⟨by rfl, ?_⟩) (by assumption) ?_
    rotate_left 1
    · intro W' hSw
      obtain ⟨hS1, hS2⟩ := hSw
      go_simp
      try with_reducible rfl
    try simp only [Act.put, List.setIfInBounds_toArray, List.set_cons_zero, List.set_cons_succ]
    refine wpAnyH_ready (rs := [13]) (by kernel_rfl) (by simp) ?_
    refine AllReadyH.cons (o := ⟨_, _, _, _, _, _⟩) rfl (fun K hK => ?_) AllReadyH.nil
    go_simp
    refine (party_any W6 x.chain.toNat x.to_.toNat (w8_lt _) (w8_lt _)).mono ?_
    rintro e W7 ⟨rfl, he⟩
    have h7 : blk W7 bx = some x.enc := (he.blk (blk_lt h6)).trans h6
    have HE7 : Hid (w.Extends W7) := HE6.out.trans (ext_Ext he)
    clear he
    dsimp only
    refine hK.out _ _ ?_ (fun hHeld => ?_)
    · exact ⟨h7, trivial⟩
    clear hK K
    try simp only [Act.put, List.setIfInBounds_toArray, List.set_cons_zero, List.set_cons_succ]
    refine wpAnyH_take (i := 14) (oi := ⟨_, _, _, _, _, _⟩) (v := ?_) rfl (by kernel_rfl) (by kernel_rfl) (by kernel_rfl) (fun _ _ _ h => h) (Or.inl ⟨by rfl, ?_⟩) (by assumption) ?_
    rotate_left 1
    · intro W' hSw
      obtain ⟨hS1, hS2⟩ := hSw
      go_simp
      try with_reducible rfl
    try simp only [Act.put, List.setIfInBounds_toArray, List.set_cons_zero, List.set_cons_succ]
    refine wpAnyH_take (i := 15) (oi := ⟨_, _, _, _, _, _⟩) (v := ?_) rfl (by kernel_rfl) (by kernel_rfl) (by kernel_rfl) (fun _ _ _ h => h) (Or.inl ⟨by rfl, ?_⟩) (by assumption) ?_
    rotate_left 1
    · intro W' hSw
      obtain ⟨hS1, hS2⟩ := hSw
      go_simp
      try with_reducible rfl
    try simp only [Act.put, List.setIfInBounds_toArray, List.set_cons_zero, List.set_cons_succ]
    refine wpAnyH_done (by kernel_rfl) ?_ _
    go_wp2_with fail
    go_ret
    refine ⟨?_, HE7.out⟩
    rw [HF.out, ← HH.out]
    rfl
  by_cases q2 : w8 x.kind = 2
  · skip
    have k0 : room (H) (⟨#[58, 32]⟩ : ByteArray) = true := room_of (hHs) ((by decide : ByteArray.size (⟨#[58, 32]⟩ : ByteArray) ≤ 2)) (by decide)
    have k1 : room (H ++ (⟨#[58, 32]⟩ : ByteArray)) (valueB x.token.toNat x.amount.toNat) = true := room_of (size_cat (hHs) ((by decide : ByteArray.size (⟨#[58, 32]⟩ : ByteArray) ≤ 2))) (size_value (w8_lt x.token) (w64_lt x.amount)) (by decide)
    have k2 : room (H ++ (⟨#[58, 32]⟩ : ByteArray) ++ (valueB x.token.toNat x.amount.toNat)) (⟨#[32, 102, 111, 114, 32]⟩ : ByteArray) = true := room_of (size_cat (size_cat (hHs) ((by decide : ByteArray.size (⟨#[58, 32]⟩ : ByteArray) ≤ 2))) (size_value (w8_lt x.token) (w64_lt x.amount))) ((by decide : ByteArray.size (⟨#[32, 102, 111, 114, 32]⟩ : ByteArray) ≤ 5)) (by decide)
    have k3 : room (H ++ (⟨#[58, 32]⟩ : ByteArray) ++ (valueB x.token.toNat x.amount.toNat) ++ (⟨#[32, 102, 111, 114, 32]⟩ : ByteArray)) (partyB x.dest.toNat x.to_.toNat) = true := room_of (size_cat (size_cat (size_cat (hHs) ((by decide : ByteArray.size (⟨#[58, 32]⟩ : ByteArray) ≤ 2))) (size_value (w8_lt x.token) (w64_lt x.amount))) ((by decide : ByteArray.size (⟨#[32, 102, 111, 114, 32]⟩ : ByteArray) ≤ 5))) (size_party (w8_lt x.dest) (w8_lt x.to_)) (by decide)
    have HF : Hid (descX x = headX x ++ (⟨#[58, 32]⟩ : ByteArray) ++ valueB x.token.toNat x.amount.toNat ++ (⟨#[32, 102, 111, 114, 32]⟩ : ByteArray) ++ partyB x.dest.toNat x.to_.toNat) := by show _ = _; unfold descX; rw [if_neg q1, if_pos q2]
    go_wp2_with fail
    refine wp_region_held_drew (S := fun W' => blk W' bx = some x.enc ∧ True) (by kernel_rfl) ⟨h5, trivial⟩ (fun hHeld => ?_)
    have h5d : blk W5.drew bx = some x.enc := h5
    have HE5d : Hid (w.Extends W5.drew) := extends_drew HE5.out
    refine wpAnyH_take (i := 0) (oi := ⟨_, _, _, _, _, _⟩) (v := ?_) rfl (by kernel_rfl) (by kernel_rfl) (by kernel_rfl) (fun _ _ _ h => h) (Or.inl ⟨by rfl, ?_⟩) (by assumption) ?_
    rotate_left 1
    · intro W' hSw
      obtain ⟨hS1, hS2⟩ := hSw
      go_simp
      try with_reducible rfl
    try simp only [Act.put, List.setIfInBounds_toArray, List.set_cons_zero, List.set_cons_succ]
    refine wpAnyH_take (i := 1) (oi := ⟨_, _, _, _, _, _⟩) (v := ?_) rfl (by kernel_rfl) (by kernel_rfl) (by kernel_rfl) (fun _ _ _ h => h) (Or.inl ⟨by rfl, ?_⟩) (by assumption) ?_
    rotate_left 1
    · intro W' hSw
      obtain ⟨hS1, hS2⟩ := hSw
      go_simp
      try with_reducible rfl
    try simp only [Act.put, List.setIfInBounds_toArray, List.set_cons_zero, List.set_cons_succ]
    refine wpAnyH_take (i := 2) (oi := ⟨_, _, _, _, _, _⟩) (v := ?_) rfl (by kernel_rfl) (by kernel_rfl) (by kernel_rfl) (fun _ _ _ h => h) (Or.inl ⟨by rfl, ?_⟩) (by assumption) ?_
    rotate_left 1
    · intro W' hSw
      obtain ⟨hS1, hS2⟩ := hSw
      go_simp
      try with_reducible rfl
    try simp only [Act.put, List.setIfInBounds_toArray, List.set_cons_zero, List.set_cons_succ]
    refine wpAnyH_take (i := 3) (oi := ⟨_, _, _, _, _, _⟩) (v := ?_) rfl (by kernel_rfl) (by kernel_rfl) (by kernel_rfl) (fun _ _ _ h => h) (Or.inl ⟨by rfl, ?_⟩) (by assumption) ?_
    rotate_left 1
    · intro W' hSw
      obtain ⟨hS1, hS2⟩ := hSw
      go_simp
      try with_reducible rfl
    try simp only [Act.put, List.setIfInBounds_toArray, List.set_cons_zero, List.set_cons_succ]
    refine wpAnyH_take (i := 4) (oi := ⟨_, _, _, _, _, _⟩) (v := ?_) rfl (by kernel_rfl) (by kernel_rfl) (by kernel_rfl) (fun _ _ _ h => h) (Or.inl ⟨by rfl, ?_⟩) (by assumption) ?_
    rotate_left 1
    · intro W' hSw
      obtain ⟨hS1, hS2⟩ := hSw
      go_simp
      try with_reducible rfl
    try simp only [Act.put, List.setIfInBounds_toArray, List.set_cons_zero, List.set_cons_succ]
    refine wpAnyH_take (i := 5) (oi := ⟨_, _, _, _, _, _⟩) (v := ?_) rfl (by kernel_rfl) (by kernel_rfl) (by kernel_rfl) (fun _ _ _ h => h) (Or.inl ⟨by rfl, ?_⟩) (by assumption) ?_
    rotate_left 1
    · intro W' hSw
      obtain ⟨hS1, hS2⟩ := hSw
      go_simp
      try with_reducible rfl
    try simp only [Act.put, List.setIfInBounds_toArray, List.set_cons_zero, List.set_cons_succ]
    refine wpAnyH_take (i := 9) (oi := ⟨_, _, _, _, _, _⟩) (v := ?_) rfl (by kernel_rfl) (by kernel_rfl) (by kernel_rfl) (fun _ _ _ h => h) (Or.inl ⟨by rfl, ?_⟩) (by assumption) ?_
    rotate_left 1
    · intro W' hSw
      obtain ⟨hS1, hS2⟩ := hSw
      go_simp
      try with_reducible rfl
    try simp only [Act.put, List.setIfInBounds_toArray, List.set_cons_zero, List.set_cons_succ]
    refine wpAnyH_take (i := 10) (oi := ⟨_, _, _, _, _, _⟩) (v := ?_) rfl (by kernel_rfl) (by kernel_rfl) (by kernel_rfl) (fun _ _ _ h => h) (Or.inl ⟨by rfl, ?_⟩) (by assumption) ?_
    rotate_left 1
    · intro W' hSw
      obtain ⟨hS1, hS2⟩ := hSw
      go_simp
      try with_reducible rfl
    try simp only [Act.put, List.setIfInBounds_toArray, List.set_cons_zero, List.set_cons_succ]
    refine wpAnyH_take (i := 11) (oi := ⟨_, _, _, _, _, _⟩) (v := ?_) rfl (by kernel_rfl) (by kernel_rfl) (by kernel_rfl) (fun _ _ _ h => h) (Or.inl ⟨by rfl, ?_⟩) (by assumption) ?_
    rotate_left 1
    · intro W' hSw
      obtain ⟨hS1, hS2⟩ := hSw
      go_simp
      try with_reducible rfl
    try simp only [Act.put, List.setIfInBounds_toArray, List.set_cons_zero, List.set_cons_succ]
    refine wpAnyH_take (i := 12) (oi := ⟨_, _, _, _, _, _⟩) (v := ?_) rfl (by kernel_rfl) (by kernel_rfl) (by kernel_rfl) (fun _ _ _ h => h) (Or.inl ⟨by rfl, ?_⟩) (by assumption) ?_
    rotate_left 1
    · intro W' hSw
      obtain ⟨hS1, hS2⟩ := hSw
      go_simp
      try with_reducible rfl
    try simp only [Act.put, List.setIfInBounds_toArray, List.set_cons_zero, List.set_cons_succ]
    refine wpAnyH_ready (rs := [6]) (by kernel_rfl) (by simp) ?_
    refine AllReadyH.cons (o := ⟨_, _, _, _, _, _⟩) rfl (fun K hK => ?_) AllReadyH.nil
    go_simp
    refine (value_any W5.drew x.token.toNat x.amount.toNat (w8_lt _) (w64_lt _)).mono ?_
    rintro e W6 ⟨rfl, he⟩
    have h6 : blk W6 bx = some x.enc := (he.blk (blk_lt h5d)).trans h5d
    have HE6 : Hid (w.Extends W6) := HE5d.out.trans (ext_Ext he)
    clear he
    dsimp only
    refine hK.out _ _ ?_ (fun hHeld => ?_)
    · exact ⟨h6, trivial⟩
    clear hK K
    try simp only [Act.put, List.setIfInBounds_toArray, List.set_cons_zero, List.set_cons_succ]
    refine wpAnyH_take (i := 7) (oi := ⟨_, _, _, _, _, _⟩) (v := ?_) rfl (by kernel_rfl) (by kernel_rfl) (by kernel_rfl) (fun _ _ _ h => h) (Or.inl ⟨by rfl, ?_⟩) (by assumption) ?_
    rotate_left 1
    · intro W' hSw
      obtain ⟨hS1, hS2⟩ := hSw
      go_simp
      try with_reducible rfl
    try simp only [Act.put, List.setIfInBounds_toArray, List.set_cons_zero, List.set_cons_succ]
    refine wpAnyH_take (i := 8) (oi := ⟨_, _, _, _, _, _⟩) (v := ?_) rfl (by kernel_rfl) (by kernel_rfl) (by kernel_rfl) (fun _ _ _ h => h) (Or.inl ⟨by rfl, ?_⟩) (by assumption) ?_
    rotate_left 1
    · intro W' hSw
      obtain ⟨hS1, hS2⟩ := hSw
      go_simp
      try with_reducible rfl
    try simp only [Act.put, List.setIfInBounds_toArray, List.set_cons_zero, List.set_cons_succ]
    refine wpAnyH_ready (rs := [13]) (by kernel_rfl) (by simp) ?_
    refine AllReadyH.cons (o := ⟨_, _, _, _, _, _⟩) rfl (fun K hK => ?_) AllReadyH.nil
    go_simp
    refine (party_any W6 x.dest.toNat x.to_.toNat (w8_lt _) (w8_lt _)).mono ?_
    rintro e W7 ⟨rfl, he⟩
    have h7 : blk W7 bx = some x.enc := (he.blk (blk_lt h6)).trans h6
    have HE7 : Hid (w.Extends W7) := HE6.out.trans (ext_Ext he)
    clear he
    dsimp only
    refine hK.out _ _ ?_ (fun hHeld => ?_)
    · exact ⟨h7, trivial⟩
    clear hK K
    try simp only [Act.put, List.setIfInBounds_toArray, List.set_cons_zero, List.set_cons_succ]
    refine wpAnyH_take (i := 14) (oi := ⟨_, _, _, _, _, _⟩) (v := ?_) rfl (by kernel_rfl) (by kernel_rfl) (by kernel_rfl) (fun _ _ _ h => h) (Or.inl ⟨by rfl, ?_⟩) (by assumption) ?_
    rotate_left 1
    · intro W' hSw
      obtain ⟨hS1, hS2⟩ := hSw
      go_simp
      try with_reducible rfl
    try simp only [Act.put, List.setIfInBounds_toArray, List.set_cons_zero, List.set_cons_succ]
    refine wpAnyH_take (i := 15) (oi := ⟨_, _, _, _, _, _⟩) (v := ?_) rfl (by kernel_rfl) (by kernel_rfl) (by kernel_rfl) (fun _ _ _ h => h) (Or.inl ⟨by rfl, ?_⟩) (by assumption) ?_
    rotate_left 1
    · intro W' hSw
      obtain ⟨hS1, hS2⟩ := hSw
      go_simp
      try with_reducible rfl
    try simp only [Act.put, List.setIfInBounds_toArray, List.set_cons_zero, List.set_cons_succ]
    refine wpAnyH_done (by kernel_rfl) ?_ _
    go_wp2_with fail
    go_ret
    refine ⟨?_, HE7.out⟩
    rw [HF.out, ← HH.out]
    rfl
  by_cases q4 : w8 x.kind = 4
  · skip
    have k0 : room (H) (⟨#[58, 32, 48, 120]⟩ : ByteArray) = true := room_of (hHs) ((by decide : ByteArray.size (⟨#[58, 32, 48, 120]⟩ : ByteArray) ≤ 4)) (by decide)
    have k1 : room (H ++ (⟨#[58, 32, 48, 120]⟩ : ByteArray)) (hexB (x.payload.toList.take x.size.toNat)) = true := room_of (size_cat (hHs) ((by decide : ByteArray.size (⟨#[58, 32, 48, 120]⟩ : ByteArray) ≤ 4))) (size_hex (n := 32) (by rw [List.length_take]; omega)) (by decide)
    have k2 : room (H ++ (⟨#[58, 32, 48, 120]⟩ : ByteArray) ++ (hexB (x.payload.toList.take x.size.toNat))) (⟨#[32, 116, 111, 32]⟩ : ByteArray) = true := room_of (size_cat (size_cat (hHs) ((by decide : ByteArray.size (⟨#[58, 32, 48, 120]⟩ : ByteArray) ≤ 4))) (size_hex (n := 32) (by rw [List.length_take]; omega))) ((by decide : ByteArray.size (⟨#[32, 116, 111, 32]⟩ : ByteArray) ≤ 4)) (by decide)
    have k3 : room (H ++ (⟨#[58, 32, 48, 120]⟩ : ByteArray) ++ (hexB (x.payload.toList.take x.size.toNat)) ++ (⟨#[32, 116, 111, 32]⟩ : ByteArray)) (partyB x.dest.toNat x.to_.toNat) = true := room_of (size_cat (size_cat (size_cat (hHs) ((by decide : ByteArray.size (⟨#[58, 32, 48, 120]⟩ : ByteArray) ≤ 4))) (size_hex (n := 32) (by rw [List.length_take]; omega))) ((by decide : ByteArray.size (⟨#[32, 116, 111, 32]⟩ : ByteArray) ≤ 4))) (size_party (w8_lt x.dest) (w8_lt x.to_)) (by decide)
    have HF : Hid (descX x = headX x ++ (⟨#[58, 32, 48, 120]⟩ : ByteArray) ++ hexB (x.payload.toList.take x.size.toNat) ++ (⟨#[32, 116, 111, 32]⟩ : ByteArray) ++ partyB x.dest.toNat x.to_.toNat) := by show _ = _; unfold descX; rw [if_neg q1, if_neg q2, if_pos q4]
    obtain ⟨l, hl⟩ : ∃ l, l = x.size.toNat := ⟨_, rfl⟩
    have hw8 : w8 x.size = (l : Int) := by unfold w8; rw [hl]
    rw [← hl] at h32 k1 k2 k3
    have HL : Hid (l = x.size.toNat) := hl
    clear hl
    have nb : ¬ (32 : Int) < (l : Int) := by omega
    go_wp2_with fail
    refine wp_region_held_drew (S := fun W' => blk W' bx = some x.enc ∧ True) (by kernel_rfl) ⟨h5, trivial⟩ (fun hHeld => ?_)
    have h5d : blk W5.drew bx = some x.enc := h5
    have HE5d : Hid (w.Extends W5.drew) := extends_drew HE5.out
    refine wpAnyH_take (i := 0) (oi := ⟨_, _, _, _, _, _⟩) (v := ?_) rfl (by kernel_rfl) (by kernel_rfl) (by kernel_rfl) (fun _ _ _ h => h) (Or.inl ⟨by rfl, ?_⟩) (by assumption) ?_
    rotate_left 1
    · intro W' hSw
      obtain ⟨hS1, hS2⟩ := hSw
      go_simp
      try with_reducible rfl
    try simp only [Act.put, List.setIfInBounds_toArray, List.set_cons_zero, List.set_cons_succ]
    refine wpAnyH_take (i := 1) (oi := ⟨_, _, _, _, _, _⟩) (v := ?_) rfl (by kernel_rfl) (by kernel_rfl) (by kernel_rfl) (fun _ _ _ h => h) (Or.inl ⟨by rfl, ?_⟩) (by assumption) ?_
    rotate_left 1
    · intro W' hSw
      obtain ⟨hS1, hS2⟩ := hSw
      go_simp
      try with_reducible rfl
    try simp only [Act.put, List.setIfInBounds_toArray, List.set_cons_zero, List.set_cons_succ]
    refine wpAnyH_take (i := 2) (oi := ⟨_, _, _, _, _, _⟩) (v := ?_) rfl (by kernel_rfl) (by kernel_rfl) (by kernel_rfl) (fun _ _ _ h => h) (Or.inl ⟨by rfl, ?_⟩) (by assumption) ?_
    rotate_left 1
    · intro W' hSw
      obtain ⟨hS1, hS2⟩ := hSw
      go_simp
      try with_reducible rfl
    try simp only [Act.put, List.setIfInBounds_toArray, List.set_cons_zero, List.set_cons_succ]
    refine wpAnyH_take (i := 3) (oi := ⟨_, _, _, _, _, _⟩) (v := ?_) rfl (by kernel_rfl) (by kernel_rfl) (by kernel_rfl) (fun _ _ _ h => h) (Or.inl ⟨by rfl, ?_⟩) (by assumption) ?_
    rotate_left 1
    · intro W' hSw
      obtain ⟨hS1, hS2⟩ := hSw
      go_simp
      try with_reducible rfl
    try simp only [Act.put, List.setIfInBounds_toArray, List.set_cons_zero, List.set_cons_succ]
    refine wpAnyH_take (i := 4) (oi := ⟨_, _, _, _, _, _⟩) (v := ?_) rfl (by kernel_rfl) (by kernel_rfl) (by kernel_rfl) (fun _ _ _ h => h) (Or.inl ⟨by rfl, ?_⟩) (by assumption) ?_
    rotate_left 1
    · intro W' hSw
      obtain ⟨hS1, hS2⟩ := hSw
      go_simp
      try with_reducible rfl
    try simp only [Act.put, List.setIfInBounds_toArray, List.set_cons_zero, List.set_cons_succ]
    refine wpAnyH_take (i := 8) (oi := ⟨_, _, _, _, _, _⟩) (v := ?_) rfl (by kernel_rfl) (by kernel_rfl) (by kernel_rfl) (fun _ _ _ h => h) (Or.inl ⟨by rfl, ?_⟩) (by assumption) ?_
    rotate_left 1
    · intro W' hSw
      obtain ⟨hS1, hS2⟩ := hSw
      go_simp
      try with_reducible rfl
    try simp only [Act.put, List.setIfInBounds_toArray, List.set_cons_zero, List.set_cons_succ]
    refine wpAnyH_take (i := 9) (oi := ⟨_, _, _, _, _, _⟩) (v := ?_) rfl (by kernel_rfl) (by kernel_rfl) (by kernel_rfl) (fun _ _ _ h => h) (Or.inl ⟨by rfl, ?_⟩) (by assumption) ?_
    rotate_left 1
    · intro W' hSw
      obtain ⟨hS1, hS2⟩ := hSw
      go_simp
      try with_reducible rfl
    try simp only [Act.put, List.setIfInBounds_toArray, List.set_cons_zero, List.set_cons_succ]
    refine wpAnyH_take (i := 10) (oi := ⟨_, _, _, _, _, _⟩) (v := ?_) rfl (by kernel_rfl) (by kernel_rfl) (by kernel_rfl) (fun _ _ _ h => h) (Or.inl ⟨by rfl, ?_⟩) (by assumption) ?_
    rotate_left 1
    · intro W' hSw
      obtain ⟨hS1, hS2⟩ := hSw
      go_simp
      try with_reducible rfl
    try simp only [Act.put, List.setIfInBounds_toArray, List.set_cons_zero, List.set_cons_succ]
    refine wpAnyH_take (i := 11) (oi := ⟨_, _, _, _, _, _⟩) (v := ?_) rfl (by kernel_rfl) (by kernel_rfl) (by kernel_rfl) (fun _ _ _ h => h) (Or.inl ⟨by rfl, ?_⟩) (by assumption) ?_
    rotate_left 1
    · intro W' hSw
      obtain ⟨hS1, hS2⟩ := hSw
      go_simp
      try with_reducible rfl
    try simp only [Act.put, List.setIfInBounds_toArray, List.set_cons_zero, List.set_cons_succ]
    refine wpAnyH_ready (rs := [5]) (by kernel_rfl) (by simp) ?_
    refine AllReadyH.cons (o := ⟨_, _, _, _, _, _⟩) rfl (fun K hK => ?_) AllReadyH.nil
    go_simp
    refine (hexOf_any W5.drew bx 10 l 32 _ (x.payload.toList.take l) h5d (by simp; omega) (seg_pay _ _ _ _ h32 (Tx.payload_get x)) (by rw [Tx.length_enc]; omega) h32).mono ?_
    rintro e W6 ⟨rfl, he⟩
    have h6 : blk W6 bx = some x.enc := (he.blk (blk_lt h5d)).trans h5d
    have HE6 : Hid (w.Extends W6) := HE5d.out.trans he
    clear he
    dsimp only
    refine hK.out _ _ ?_ (fun hHeld => ?_)
    · exact ⟨h6, trivial⟩
    clear hK K
    try simp only [Act.put, List.setIfInBounds_toArray, List.set_cons_zero, List.set_cons_succ]
    refine wpAnyH_take (i := 6) (oi := ⟨_, _, _, _, _, _⟩) (v := ?_) rfl (by kernel_rfl) (by kernel_rfl) (by kernel_rfl) (fun _ _ _ h => h) (Or.inl ⟨by rfl, ?_⟩) (by assumption) ?_
    rotate_left 1
    · intro W' hSw
      obtain ⟨hS1, hS2⟩ := hSw
      go_simp
      try with_reducible rfl
    try simp only [Act.put, List.setIfInBounds_toArray, List.set_cons_zero, List.set_cons_succ]
    refine wpAnyH_take (i := 7) (oi := ⟨_, _, _, _, _, _⟩) (v := ?_) rfl (by kernel_rfl) (by kernel_rfl) (by kernel_rfl) (fun _ _ _ h => h) (Or.inl ⟨by rfl, ?_⟩) (by assumption) ?_
    rotate_left 1
    · intro W' hSw
      obtain ⟨hS1, hS2⟩ := hSw
      go_simp
      try with_reducible rfl
    try simp only [Act.put, List.setIfInBounds_toArray, List.set_cons_zero, List.set_cons_succ]
    refine wpAnyH_ready (rs := [12]) (by kernel_rfl) (by simp) ?_
    refine AllReadyH.cons (o := ⟨_, _, _, _, _, _⟩) rfl (fun K hK => ?_) AllReadyH.nil
    go_simp
    refine (party_any W6 x.dest.toNat x.to_.toNat (w8_lt _) (w8_lt _)).mono ?_
    rintro e W7 ⟨rfl, he⟩
    have h7 : blk W7 bx = some x.enc := (he.blk (blk_lt h6)).trans h6
    have HE7 : Hid (w.Extends W7) := HE6.out.trans (ext_Ext he)
    clear he
    dsimp only
    refine hK.out _ _ ?_ (fun hHeld => ?_)
    · exact ⟨h7, trivial⟩
    clear hK K
    try simp only [Act.put, List.setIfInBounds_toArray, List.set_cons_zero, List.set_cons_succ]
    refine wpAnyH_take (i := 13) (oi := ⟨_, _, _, _, _, _⟩) (v := ?_) rfl (by kernel_rfl) (by kernel_rfl) (by kernel_rfl) (fun _ _ _ h => h) (Or.inl ⟨by rfl, ?_⟩) (by assumption) ?_
    rotate_left 1
    · intro W' hSw
      obtain ⟨hS1, hS2⟩ := hSw
      go_simp
      try with_reducible rfl
    try simp only [Act.put, List.setIfInBounds_toArray, List.set_cons_zero, List.set_cons_succ]
    refine wpAnyH_take (i := 14) (oi := ⟨_, _, _, _, _, _⟩) (v := ?_) rfl (by kernel_rfl) (by kernel_rfl) (by kernel_rfl) (fun _ _ _ h => h) (Or.inl ⟨by rfl, ?_⟩) (by assumption) ?_
    rotate_left 1
    · intro W' hSw
      obtain ⟨hS1, hS2⟩ := hSw
      go_simp
      try with_reducible rfl
    try simp only [Act.put, List.setIfInBounds_toArray, List.set_cons_zero, List.set_cons_succ]
    refine wpAnyH_done (by kernel_rfl) ?_ _
    go_wp2_with fail
    go_ret
    refine ⟨?_, HE7.out⟩
    rw [HF.out, ← HH.out, ← HL.out]
    rfl
  have q1b : (w8 x.kind == 1) = false := by simp [q1]
  have q2b : (w8 x.kind == 2) = false := by simp [q2]
  have q4b : (w8 x.kind == 4) = false := by simp [q4]
  by_cases q3 : w8 x.kind = 3
  · skip
    have k0 : room (H) (⟨#[58, 32]⟩ : ByteArray) = true := room_of (hHs) ((by decide : ByteArray.size (⟨#[58, 32]⟩ : ByteArray) ≤ 2)) (by decide)
    have k1 : room (H ++ (⟨#[58, 32]⟩ : ByteArray)) (descM x.msg) = true := room_of (size_cat (hHs) ((by decide : ByteArray.size (⟨#[58, 32]⟩ : ByteArray) ≤ 2))) (size_descM _ hm32) (by decide)
    have HF : Hid (descX x = headX x ++ (⟨#[58, 32]⟩ : ByteArray) ++ descM x.msg) := by show _ = _; unfold descX; rw [if_neg q1, if_neg q2, if_neg q4, if_pos (Or.inl q3)]
    go_wp2_with fail
    refine (descM_any W5 x.msg hm32).mono ?_
    rintro e W6 ⟨rfl, he⟩
    have HE6 : Hid (w.Extends W6) := HE5.out.trans he
    clear he
    go_wp2_with fail
    go_ret
    refine ⟨?_, HE6.out⟩
    rw [HF.out, ← HH.out]
    rfl
  have q3b : (w8 x.kind == 3) = false := by simp [q3]
  by_cases q5 : w8 x.kind = 5
  · skip
    have k0 : room (H) (⟨#[58, 32]⟩ : ByteArray) = true := room_of (hHs) ((by decide : ByteArray.size (⟨#[58, 32]⟩ : ByteArray) ≤ 2)) (by decide)
    have k1 : room (H ++ (⟨#[58, 32]⟩ : ByteArray)) (descM x.msg) = true := room_of (size_cat (hHs) ((by decide : ByteArray.size (⟨#[58, 32]⟩ : ByteArray) ≤ 2))) (size_descM _ hm32) (by decide)
    have HF : Hid (descX x = headX x ++ (⟨#[58, 32]⟩ : ByteArray) ++ descM x.msg) := by show _ = _; unfold descX; rw [if_neg q1, if_neg q2, if_neg q4, if_pos (Or.inr q5)]
    go_wp2_with fail
    refine (descM_any W5 x.msg hm32).mono ?_
    rintro e W6 ⟨rfl, he⟩
    have HE6 : Hid (w.Extends W6) := HE5.out.trans he
    clear he
    go_wp2_with fail
    go_ret
    refine ⟨?_, HE6.out⟩
    rw [HF.out, ← HH.out]
    rfl
  have q5b : (w8 x.kind == 5) = false := by simp [q5]
  have HF : Hid (descX x = headX x) := by show _ = _; unfold descX; rw [if_neg q1, if_neg q2, if_neg q4, if_neg (by rintro (h | h); exact q3 h; exact q5 h)]
  go_wp2_with fail
  go_ret
  refine ⟨?_, HE5.out⟩
  rw [HF.out, ← HH.out]
  rfl
end Go.Proofs.Qxb6500786a
