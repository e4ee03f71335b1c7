import Derived.Test.Qxb6500786aHex
import Derived.StillTailTactics
import Derived.Deep.QuietTactic
import Derived.BigQuiet
import Derived.Deep.RegionHeld
import Derived.Deep.CutRange
import Derived.Laws.ResultCell
import Derived.Laws.Rows
import Derived.DeepKeys
import Derived.DataBytes
import Derived.Laws.StructEq
import Derived.Laws.AppendOwn
set_option linter.unusedSimpArgs false
set_option linter.unusedVariables false
namespace Go.Proofs.Qxb6500786a
open Go.RowKit Go.Blk
attribute [local go_sem ↓] execOp_load execOp_store execOp_alloc
attribute [local go_sem] Try.ld33 Try.st33 Try.ld24 Try.st24 Try.ld29 Try.st29 Try.ld30 Try.st30 Try.ld31 Try.st31 Try.ld5 Try.st5 Try.ld28 Try.st28 Try.ld27 Try.st27 Try.ld26 Try.st26 Try.ld2 Try.st2 Try.ld3 Try.st3 Try.ld4 Try.st4 Try.ld9 Try.st9 Try.ld12 Try.st12 Try.ld21 Try.st21 Try.ld22 Try.st22 Try.ld41 Try.st41 Try.ld50 Try.st50 Try.ld55 Try.st55 Try.ld63 Try.st63 Try.ld78 Try.st78 Try.ld87 Try.st87 Try.ld91 Try.st91 Try.ld32 Try.st32 Try.ld47 Try.st47 Try.ld52 Try.st52 Try.ld71 Try.st71 Try.ld35 Try.st35 Try.ld37 Try.st37 Try.ld39 Try.st39 Try.al32 Try.al47 Try.al52 Try.al71 Try.al35 Try.al37 Try.al39
attribute [local go_sem] Message.length_enc Message.ok_enc Message.all_get Message.all_set Message.kind_get Message.kind_set Message.from__get Message.from__set Message.to__get Message.to__set Message.sender_get Message.sender_set Message.receiver_get Message.receiver_set Message.seq_get Message.seq_set Message.token_get Message.token_set Message.amount_get Message.amount_set Message.size_get Message.size_set Message.payload_get Message.payload_set Tx.length_enc Tx.ok_enc Tx.all_get Tx.all_set Tx.kind_get Tx.kind_set Tx.chain_get Tx.chain_set Tx.from__get Tx.from__set Tx.nonce_get Tx.nonce_set Tx.fee_get Tx.fee_set Tx.to__get Tx.to__set Tx.dest_get Tx.dest_set Tx.token_get Tx.token_set Tx.amount_get Tx.amount_set Tx.size_get Tx.size_set Tx.payload_get Tx.payload_set Tx.msg_get Tx.msg_set Tx.msg_kind_get Tx.msg_kind_set Tx.msg_from__get Tx.msg_from__set Tx.msg_to__get Tx.msg_to__set Tx.msg_sender_get Tx.msg_sender_set Tx.msg_receiver_get Tx.msg_receiver_set Tx.msg_seq_get Tx.msg_seq_set Tx.msg_token_get Tx.msg_token_set Tx.msg_amount_get Tx.msg_amount_set Tx.msg_size_get Tx.msg_size_set Tx.msg_payload_get Tx.msg_payload_set GOp.length_enc GOp.ok_enc GOp.all_get GOp.all_set GOp.kind_get GOp.kind_set GOp.tx_get GOp.tx_set GOp.txs_get GOp.txs_set GOp.gas_get GOp.gas_set GOp.acct_get GOp.acct_set GOp.token_get GOp.token_set GOp.chain_get GOp.chain_set GOp.seq_get GOp.seq_set GOp.tx_kind_get GOp.tx_kind_set GOp.tx_chain_get GOp.tx_chain_set GOp.tx_from__get GOp.tx_from__set GOp.tx_nonce_get GOp.tx_nonce_set GOp.tx_fee_get GOp.tx_fee_set GOp.tx_to__get GOp.tx_to__set GOp.tx_dest_get GOp.tx_dest_set GOp.tx_token_get GOp.tx_token_set GOp.tx_amount_get GOp.tx_amount_set GOp.tx_size_get GOp.tx_size_set GOp.tx_payload_get GOp.tx_payload_set GOp.tx_msg_get GOp.tx_msg_set GOp.tx_msg_kind_get GOp.tx_msg_kind_set GOp.tx_msg_from__get GOp.tx_msg_from__set GOp.tx_msg_to__get GOp.tx_msg_to__set GOp.tx_msg_sender_get GOp.tx_msg_sender_set GOp.tx_msg_receiver_get GOp.tx_msg_receiver_set GOp.tx_msg_seq_get GOp.tx_msg_seq_set GOp.tx_msg_token_get GOp.tx_msg_token_set GOp.tx_msg_amount_get GOp.tx_msg_amount_set GOp.tx_msg_size_get GOp.tx_msg_size_set GOp.tx_msg_payload_get GOp.tx_msg_payload_set
attribute [local go_sem] size_put size_ext blk_put free_put blk_alloc free_alloc blk_drew free_drew blk_ext free_ext lookOr_some putOr_some segAt_some cellAt_some storeIn_some put_put put_alloc_new length_arr ok_arr_u8 ok_arr_u32 ok_arr_u64 ok_arr_i64 ok_arr_sl cellsV_agg cellsV_int cellsV_bool cellsV_string cellsV_pointer cellsV_slice cellsV_sl ok_int ok_bool ok_string ok_pointer ok_slice ok_sl toList_arr seg_arr set_arr nth_splice nth_splice0 seg_splice seg_splice0 splice_splice splice_splice0 length_splice_if
attribute [local go_sem ↓] execOp_box
attribute [local go_sem] box_run nth_arr_u8 put_arr_u8
theorem Try.sl32hi64 (w : World) (b o l : Nat) (h : l ≤ 32) : (sliceOp 32 (.pointer (some ⟨b, o, none⟩)) none (some (.int .i64 (l : Int))) none).run Try.prog w = .ok (.value (.slice (some ⟨b, o, none⟩) l 32)) w := slice_arr_hi (e := 5) (by kernel_rfl) (by kernel_rfl) w b o l h
theorem seg_pay (C : List Value) (o : Nat) (v : Vector UInt8 32) (l : Nat) (hl : l ≤ 32) (h : seg C o 32 = arr u8v v) : seg C o l = bv (v.toList.take l) := by
  have h1 : seg C o l = (seg C o 32).take l := by unfold seg; rw [List.take_take, Nat.min_eq_left hl]
  rw [h1, h]
  simp [bv, arr, List.map_take]
theorem splice_all (C vs : List Value) (h : vs.length = C.length) : splice C 0 vs = vs := by
  unfold splice
  simp [h]
attribute [local go_sem ↓] execOp_index execOp_convert execOp_slice execOp_add9 execOp_make execOp_bslice2 execOp_copy
attribute [local go_sem] index_hex Try.sl71lo add_run bslice63 Try.sl32hi64 Try.cpv copyOrV_some Try.cp63 copyOr_some copyIn_some srcB_drew length_bv one_bv
set_option maxRecDepth 20000 in
theorem payloadOf_any (w : World) (m : Message) (h32 : m.size.toNat ≤ 32) : Calls Try.prog 32 #[.agg m.enc.toArray] w fun e w' => ∃ g, e = .returned (.slice (some ⟨g, 0, none⟩) m.size.toNat m.size.toNat) ∧ blk w' g = some (bv (m.payload.toList.take m.size.toNat)) ∧ w.Extends w' := by
  obtain ⟨l, hl⟩ : ∃ l, l = m.size.toNat := ⟨_, rfl⟩
  have hw : w8 m.size = (l : Int) := by unfold w8; rw [hl]
  rw [← hl] at h32 ⊢
  have HL : Hid (l = m.size.toNat) := hl
  clear hl
  have q2 : ¬ (32 : Int) < (l : Int) := by omega
  have m1 := fun w : World => make63 w l l (by omega) (by omega)
  obtain ⟨ys, hys⟩ : ∃ ys, ys = m.payload.toList.take l := ⟨_, rfl⟩
  rw [← hys]
  have hyl : ys.length = l := by rw [hys]; simp; omega
  have HYS : Hid (ys = m.payload.toList.take l) := hys
  have HYL : Hid (ys.length = l) := hyl
  clear hyl hys
  go_enter Try.func32, Try.ntmps32
  go_upto_region 5 with fail
  refine wp_world (fun W1 => blk W1 w.heap.size = some m.enc ∧ blk W1 (w.heap.size + 1) = some (bv (List.replicate l 0)) ∧ free W1 (w.heap.size + 1) = true ∧ Hid (Ext w W1)) ⟨?_, ?_, ?_, ((Ext.refl w).alloc _).alloc _⟩ ?_
  · rw [blk_alloc, if_neg (by rw [World.size_alloc]; omega), blk_alloc, if_pos rfl]
  · rw [blk_alloc, if_pos (by rw [World.size_alloc])]; simp [zerosA]
  · rw [free_alloc, if_pos (by rw [World.size_alloc])]
  obtain ⟨bx, hbx⟩ : ∃ bx, bx = w.heap.size := ⟨_, rfl⟩
  obtain ⟨bg, hbg⟩ : ∃ bg, bg = w.heap.size + 1 := ⟨_, rfl⟩
  rw [← hbg, ← hbx]
  have n1 : ¬ bx = bg := by omega
  have n2 : ¬ bg = bx := by omega
  have HB : Hid (bx = w.heap.size ∧ bg = w.heap.size + 1) := ⟨hbx, hbg⟩
  clear hbx hbg m1
  rintro W1 ⟨h1, hg1, hf1, HE⟩
  have hs : srcB W1 (some ⟨bx, 9, none⟩) l = some (bv ys) := by
    unfold srcB
    by_cases h0 : l = 0
    · rw [if_pos h0]
      have : ys = [] := List.eq_nil_of_length_eq_zero (by rw [HYL.out]; exact h0)
      rw [this]; rfl
    · rw [if_neg h0]
      simp only [h1]
      rw [if_pos (by rw [Message.length_enc]; omega), seg_pay _ _ _ _ h32 (Message.payload_get m), HYS.out]
  have hsp : splice (bv (List.replicate l 0)) 0 (bv ys) = bv ys := splice_all _ _ (by rw [length_bv, length_bv]; simp [HYL.out])
  have hyl2 : ys.length ≤ l := by rw [HYL.out]; omega
  go_wp2_with fail
  go_ret
  refine ⟨bg, rfl, ?_, ?_⟩
  · rw [blk_put, if_pos rfl, hg1]; rfl
  · have := HB.out
    exact ext_Ext (HE.out.put_new _ _ (by omega))
end Go.Proofs.Qxb6500786a
