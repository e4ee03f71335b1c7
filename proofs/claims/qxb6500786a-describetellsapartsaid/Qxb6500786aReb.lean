import Derived.Test.Qxb6500786aCpy
import Derived.StillTailTactics
import Derived.Deep.QuietTactic
import Derived.BigQuiet
import Derived.Deep.RegionHeld
import Derived.Deep.CutRange
import Derived.Laws.ResultCell
import Derived.Laws.Rows
import Derived.DeepKeys
import Derived.DataBytes
import Derived.Laws.StructEq
set_option linter.unusedSimpArgs false
set_option linter.unusedVariables false
namespace Go.Proofs.Qxb6500786a
open Go.RowKit Go.Blk
attribute [local go_sem ↓] execOp_load execOp_store execOp_alloc
attribute [local go_sem] Try.ld33 Try.st33 Try.ld24 Try.st24 Try.ld29 Try.st29 Try.ld30 Try.st30 Try.ld31 Try.st31 Try.ld5 Try.st5 Try.ld28 Try.st28 Try.ld27 Try.st27 Try.ld26 Try.st26 Try.ld2 Try.st2 Try.ld3 Try.st3 Try.ld4 Try.st4 Try.ld9 Try.st9 Try.ld12 Try.st12 Try.ld21 Try.st21 Try.ld22 Try.st22 Try.ld41 Try.st41 Try.ld50 Try.st50 Try.ld55 Try.st55 Try.ld63 Try.st63 Try.ld78 Try.st78 Try.ld87 Try.st87 Try.ld91 Try.st91 Try.ld32 Try.st32 Try.ld47 Try.st47 Try.ld52 Try.st52 Try.ld71 Try.st71 Try.ld35 Try.st35 Try.ld37 Try.st37 Try.ld39 Try.st39 Try.al32 Try.al47 Try.al52 Try.al71 Try.al35 Try.al37 Try.al39
attribute [local go_sem] Message.length_enc Message.ok_enc Message.all_get Message.all_set Message.kind_get Message.kind_set Message.from__get Message.from__set Message.to__get Message.to__set Message.sender_get Message.sender_set Message.receiver_get Message.receiver_set Message.seq_get Message.seq_set Message.token_get Message.token_set Message.amount_get Message.amount_set Message.size_get Message.size_set Message.payload_get Message.payload_set Tx.length_enc Tx.ok_enc Tx.all_get Tx.all_set Tx.kind_get Tx.kind_set Tx.chain_get Tx.chain_set Tx.from__get Tx.from__set Tx.nonce_get Tx.nonce_set Tx.fee_get Tx.fee_set Tx.to__get Tx.to__set Tx.dest_get Tx.dest_set Tx.token_get Tx.token_set Tx.amount_get Tx.amount_set Tx.size_get Tx.size_set Tx.payload_get Tx.payload_set Tx.msg_get Tx.msg_set Tx.msg_kind_get Tx.msg_kind_set Tx.msg_from__get Tx.msg_from__set Tx.msg_to__get Tx.msg_to__set Tx.msg_sender_get Tx.msg_sender_set Tx.msg_receiver_get Tx.msg_receiver_set Tx.msg_seq_get Tx.msg_seq_set Tx.msg_token_get Tx.msg_token_set Tx.msg_amount_get Tx.msg_amount_set Tx.msg_size_get Tx.msg_size_set Tx.msg_payload_get Tx.msg_payload_set GOp.length_enc GOp.ok_enc GOp.all_get GOp.all_set GOp.kind_get GOp.kind_set GOp.tx_get GOp.tx_set GOp.txs_get GOp.txs_set GOp.gas_get GOp.gas_set GOp.acct_get GOp.acct_set GOp.token_get GOp.token_set GOp.chain_get GOp.chain_set GOp.seq_get GOp.seq_set GOp.tx_kind_get GOp.tx_kind_set GOp.tx_chain_get GOp.tx_chain_set GOp.tx_from__get GOp.tx_from__set GOp.tx_nonce_get GOp.tx_nonce_set GOp.tx_fee_get GOp.tx_fee_set GOp.tx_to__get GOp.tx_to__set GOp.tx_dest_get GOp.tx_dest_set GOp.tx_token_get GOp.tx_token_set GOp.tx_amount_get GOp.tx_amount_set GOp.tx_size_get GOp.tx_size_set GOp.tx_payload_get GOp.tx_payload_set GOp.tx_msg_get GOp.tx_msg_set GOp.tx_msg_kind_get GOp.tx_msg_kind_set GOp.tx_msg_from__get GOp.tx_msg_from__set GOp.tx_msg_to__get GOp.tx_msg_to__set GOp.tx_msg_sender_get GOp.tx_msg_sender_set GOp.tx_msg_receiver_get GOp.tx_msg_receiver_set GOp.tx_msg_seq_get GOp.tx_msg_seq_set GOp.tx_msg_token_get GOp.tx_msg_token_set GOp.tx_msg_amount_get GOp.tx_msg_amount_set GOp.tx_msg_size_get GOp.tx_msg_size_set GOp.tx_msg_payload_get GOp.tx_msg_payload_set
attribute [local go_sem] size_put size_ext blk_put free_put blk_alloc free_alloc blk_drew free_drew blk_ext free_ext lookOr_some putOr_some segAt_some cellAt_some storeIn_some put_put put_alloc_new length_arr ok_arr_u8 ok_arr_u32 ok_arr_u64 ok_arr_i64 ok_arr_sl cellsV_agg cellsV_int cellsV_bool cellsV_string cellsV_pointer cellsV_slice cellsV_sl ok_int ok_bool ok_string ok_pointer ok_slice ok_sl toList_arr seg_arr set_arr nth_splice nth_splice0 seg_splice seg_splice0 splice_splice splice_splice0 length_splice_if
attribute [local go_sem ↓] execOp_box
attribute [local go_sem] box_run nth_arr_u8 put_arr_u8
def rebuildF (x : Tx) : Tx × Int :=
  if w8 x.kind = 1 then ({ Tx.zero with kind := 1, chain := x.chain, from_ := x.from_, nonce := x.nonce, fee := x.fee, to_ := x.to_, token := x.token, amount := x.amount }, 0)
  else if w8 x.kind = 2 then ({ Tx.zero with kind := 2, chain := x.chain, from_ := x.from_, nonce := x.nonce, fee := x.fee, to_ := x.to_, dest := x.dest, token := x.token, amount := x.amount }, 0)
  else if w8 x.kind = 4 then (if 32 < x.size.toNat then (Tx.zero, 11) else if x.size.toNat = 0 then (Tx.zero, 12) else ({ Tx.zero with kind := 4, chain := x.chain, from_ := x.from_, nonce := x.nonce, fee := x.fee, to_ := x.to_, dest := x.dest, size := UInt8.ofNat x.size.toNat, payload := keepP (x.payload.toList.take x.size.toNat) }, 0))
  else if w8 x.kind = 3 then ({ Tx.zero with kind := 3, chain := x.chain, from_ := x.from_, nonce := x.nonce, fee := x.fee, msg := x.msg }, 0)
  else if w8 x.kind = 5 then ({ Tx.zero with kind := 5, chain := x.chain, from_ := x.msg.receiver, nonce := x.nonce, fee := x.fee, msg := x.msg }, 0)
  else (Tx.zero, 1)
attribute [local go_sem ↓] execOp_build execOp_slice
theorem Try.sl32z (w : World) (b o : Nat) : (sliceOp 32 (.pointer (some ⟨b, o, none⟩)) none (some (.int .u8 0)) none).run Try.prog w = .ok (.value (.slice (some ⟨b, o, none⟩) 0 32)) w := Try.sl32hi w b o 0 (by omega)
attribute [local go_sem] build37z Try.sl32hi Try.sl32z
theorem payload_bytes {W : World} {b : Nat} {x : Tx} (h : blk W b = some x.enc) (l : Nat) (hl : l ≤ 32) (av : Nat) (hav : b ≠ av) : BytesAt av W (some ⟨b, 10, none⟩) l 32 (x.payload.toList.take l) := by
  refine ⟨by simp; omega, hl, ⟨by omega, by omega⟩, fun _ => ⟨b, 10, x.enc, rfl, hav, h, by rw [Tx.length_enc]; omega, ?_⟩⟩
  have h1 := Tx.payload_get x
  have h2 : seg x.enc 10 l = (seg x.enc 10 32).take l := by unfold seg; rw [List.take_take, Nat.min_eq_left hl]
  rw [h2, h1]
  unfold arr bv
  rw [List.map_take]
set_option maxRecDepth 20000 in
set_option maxHeartbeats 1000000 in
theorem rebuild_any (w : World) (x : Tx) : Calls Try.prog 13 #[.agg x.enc.toArray] w fun e w' => e = .returned (.tuple #[.agg (rebuildF x).1.enc.toArray, .int .i64 (rebuildF x).2]) ∧ Ext w w' := by
  go_enter Try.func13, Try.ntmps13
  go_upto_region 1 with fail
  refine wp_world (fun W1 => blk W1 w.heap.size = some x.enc ∧ blk W1 (w.heap.size + 1) = some Tx.zero.enc ∧ free W1 (w.heap.size + 1) = true ∧ Hid (Ext w W1)) ⟨?_, ?_, ?_, ((Ext.refl w).alloc _).alloc _⟩ ?_
  · rw [blk_alloc, if_neg (by rw [World.size_alloc]; omega), blk_alloc, if_pos rfl]
  · rw [blk_alloc, if_pos (by rw [World.size_alloc])]
  · rw [free_alloc, if_pos (by rw [World.size_alloc])]
  obtain ⟨bx, hbx⟩ : ∃ bx, bx = w.heap.size := ⟨_, rfl⟩
  obtain ⟨bq, hbq⟩ : ∃ bq, bq = w.heap.size + 1 := ⟨_, rfl⟩
  rw [← hbq, ← hbx]
  have n1 : ¬ bx = bq := by omega
  have n2 : ¬ bq = bx := by omega
  have HB : Hid (bx = w.heap.size ∧ bq = w.heap.size + 1) := ⟨hbx, hbq⟩
  clear hbx hbq
  rintro W1 ⟨hx1, hq1, hf1, HE⟩
  have hxl := blk_lt hx1
  by_cases k1 : w8 x.kind = 1
  · skip
    have HF : Hid (rebuildF x = ({ Tx.zero with kind := 1, chain := x.chain, from_ := x.from_, nonce := x.nonce, fee := x.fee, to_ := x.to_, token := x.token, amount := x.amount }, 0)) := by show _ = _; unfold rebuildF; rw [if_pos k1]
    go_wp2_with fail
    refine (newTransfer_any _ x.chain x.from_ x.to_ x.token x.nonce x.fee x.amount).mono ?_
    rintro e w2 ⟨rfl, he⟩
    have hq2 : blk w2 bq = some Tx.zero.enc := (he.blk (blk_lt hq1)).trans hq1
    have hf2 : free w2 bq = true := (he.free (blk_lt hq1)).trans hf1
    have HE2 : Hid (Ext w w2) := HE.out.trans he
    clear he
    go_wp2_with fail
    refine ret_cell_tmp (C := Tx.enc { Tx.zero with kind := 1, chain := x.chain, from_ := x.from_, nonce := x.nonce, fee := x.fee, to_ := x.to_, token := x.token, amount := x.amount }) rfl rfl rfl ?_ (by kernel_rfl) (by rw [Tx.length_enc]; kernel_rfl) rfl ?_
    · first | (simp only [blk_drew, blk_put, if_true, hq2]; rfl) | (simp only [blk_put, if_true, hq2]; rfl) | exact hq2
    · refine ⟨?_, ?_⟩
      · rw [HF.out]; rfl
      · have hb := HB.out
        first | exact HE2.out.put_new _ _ (by omega) | exact (HE2.out.put_new _ _ (by omega)).drew | exact HE2.out
  by_cases k2 : w8 x.kind = 2
  · skip
    have HF : Hid (rebuildF x = ({ Tx.zero with kind := 2, chain := x.chain, from_ := x.from_, nonce := x.nonce, fee := x.fee, to_ := x.to_, dest := x.dest, token := x.token, amount := x.amount }, 0)) := by show _ = _; unfold rebuildF; rw [if_neg k1, if_pos k2]
    go_wp2_with fail
    refine (newBurn_any _ x.chain x.from_ x.dest x.to_ x.token x.nonce x.fee x.amount).mono ?_
    rintro e w2 ⟨rfl, he⟩
    have hq2 : blk w2 bq = some Tx.zero.enc := (he.blk (blk_lt hq1)).trans hq1
    have hf2 : free w2 bq = true := (he.free (blk_lt hq1)).trans hf1
    have HE2 : Hid (Ext w w2) := HE.out.trans he
    clear he
    go_wp2_with fail
    refine ret_cell_tmp (C := Tx.enc { Tx.zero with kind := 2, chain := x.chain, from_ := x.from_, nonce := x.nonce, fee := x.fee, to_ := x.to_, dest := x.dest, token := x.token, amount := x.amount }) rfl rfl rfl ?_ (by kernel_rfl) (by rw [Tx.length_enc]; kernel_rfl) rfl ?_
    · first | (simp only [blk_drew, blk_put, if_true, hq2]; rfl) | (simp only [blk_put, if_true, hq2]; rfl) | exact hq2
    · refine ⟨?_, ?_⟩
      · rw [HF.out]; rfl
      · have hb := HB.out
        first | exact HE2.out.put_new _ _ (by omega) | exact (HE2.out.put_new _ _ (by omega)).drew | exact HE2.out
  by_cases k4 : w8 x.kind = 4
  · obtain ⟨l, hl⟩ : ∃ l, l = x.size.toNat := ⟨_, rfl⟩
    have hzl : w8 x.size = (l : Int) := by unfold w8; rw [hl]
    have HL : Hid (l = x.size.toNat) := hl
    clear hl
    by_cases hbig : 32 < l
    · have hbig' : (32 : Int) < (l : Int) := by omega
      have HF : Hid (rebuildF x = (Tx.zero, 11)) := by show _ = _; unfold rebuildF; rw [if_neg k1, if_neg k2, if_pos k4, if_pos (by rw [← HL.out]; exact hbig)]
      have hq2 := hq1
      go_wp2_with fail
      refine ret_cell_tmp (C := Tx.enc Tx.zero) rfl rfl rfl ?_ (by kernel_rfl) (by rw [Tx.length_enc]; kernel_rfl) rfl ?_
      · first | (simp only [blk_drew, blk_put, if_true, hq2]; rfl) | (simp only [blk_put, if_true, hq2]; rfl) | exact hq2
      · refine ⟨?_, ?_⟩
        · rw [HF.out]; rfl
        · have hb := HB.out
          first | exact HE.out.put_new _ _ (by omega) | exact (HE.out.put_new _ _ (by omega)).drew | exact HE.out
    · have hl32 : l ≤ 32 := by omega
      have hbig' : ¬ (32 : Int) < (l : Int) := by omega
      by_cases hl0 : l = 0
      · have HF : Hid (rebuildF x = (Tx.zero, 12)) := by show _ = _; unfold rebuildF; rw [if_neg k1, if_neg k2, if_pos k4, if_neg (by rw [← HL.out]; exact hbig), if_pos (by rw [← HL.out]; exact hl0)]
        subst hl0
        go_wp2_with fail
        refine wp_region_held_drew (S := fun W' => blk W' bx = some x.enc ∧ True) (by kernel_rfl) ⟨hx1, trivial⟩ (fun hHeld => ?_)
        refine wpAnyH_take (i := 0) (oi := ⟨_, _, _, _, _, _⟩) (v := ?_) rfl (by kernel_rfl) (by kernel_rfl) (by kernel_rfl) (fun _ _ _ h => h) (Or.inl ⟨by rfl, ?_⟩) (by assumption) ?_
        rotate_left 1
        · intro W' hSw
          obtain ⟨hS1, hS2⟩ := hSw
          go_simp
          try with_reducible rfl
        try simp only [Act.put, List.setIfInBounds_toArray, List.set_cons_zero, List.set_cons_succ]
        refine wpAnyH_take (i := 1) (oi := ⟨_, _, _, _, _, _⟩) (v := ?_) rfl (by kernel_rfl) (by kernel_rfl) (by kernel_rfl) (fun _ _ _ h => h) (Or.inl ⟨by rfl, ?_⟩) (by assumption) ?_
        rotate_left 1
        · intro W' hSw
          obtain ⟨hS1, hS2⟩ := hSw
          go_simp
          try with_reducible rfl
        try simp only [Act.put, List.setIfInBounds_toArray, List.set_cons_zero, List.set_cons_succ]
        refine wpAnyH_take (i := 2) (oi := ⟨_, _, _, _, _, _⟩) (v := ?_) rfl (by kernel_rfl) (by kernel_rfl) (by kernel_rfl) (fun _ _ _ h => h) (Or.inl ⟨by rfl, ?_⟩) (by assumption) ?_
        rotate_left 1
        · intro W' hSw
          obtain ⟨hS1, hS2⟩ := hSw
          go_simp
          try with_reducible rfl
        try simp only [Act.put, List.setIfInBounds_toArray, List.set_cons_zero, List.set_cons_succ]
        refine wpAnyH_take (i := 3) (oi := ⟨_, _, _, _, _, _⟩) (v := ?_) rfl (by kernel_rfl) (by kernel_rfl) (by kernel_rfl) (fun _ _ _ h => h) (Or.inl ⟨by rfl, ?_⟩) (by assumption) ?_
        rotate_left 1
        · intro W' hSw
          obtain ⟨hS1, hS2⟩ := hSw
          go_simp
          try with_reducible rfl
        try simp only [Act.put, List.setIfInBounds_toArray, List.set_cons_zero, List.set_cons_succ]
        refine wpAnyH_take (i := 4) (oi := ⟨_, _, _, _, _, _⟩) (v := ?_) rfl (by kernel_rfl) (by kernel_rfl) (by kernel_rfl) (fun _ _ _ h => h) (Or.inl ⟨by rfl, ?_⟩) (by assumption) ?_
        rotate_left 1
        · intro W' hSw
          obtain ⟨hS1, hS2⟩ := hSw
          go_simp
          try with_reducible rfl
        try simp only [Act.put, List.setIfInBounds_toArray, List.set_cons_zero, List.set_cons_succ]
        refine wpAnyH_take (i := 5) (oi := ⟨_, _, _, _, _, _⟩) (v := ?_) rfl (by kernel_rfl) (by kernel_rfl) (by kernel_rfl) (fun _ _ _ h => h) (Or.inl ⟨by rfl, ?_⟩) (by assumption) ?_
        rotate_left 1
        · intro W' hSw
          obtain ⟨hS1, hS2⟩ := hSw
          go_simp
          try with_reducible rfl
        try simp only [Act.put, List.setIfInBounds_toArray, List.set_cons_zero, List.set_cons_succ]
        refine wpAnyH_take (i := 6) (oi := ⟨_, _, _, _, _, _⟩) (v := ?_) rfl (by kernel_rfl) (by kernel_rfl) (by kernel_rfl) (fun _ _ _ h => h) (Or.inl ⟨by rfl, ?_⟩) (by assumption) ?_
        rotate_left 1
        · intro W' hSw
          obtain ⟨hS1, hS2⟩ := hSw
          go_simp
          try with_reducible rfl
        try simp only [Act.put, List.setIfInBounds_toArray, List.set_cons_zero, List.set_cons_succ]
        refine wpAnyH_take (i := 7) (oi := ⟨_, _, _, _, _, _⟩) (v := ?_) rfl (by kernel_rfl) (by kernel_rfl) (by kernel_rfl) (fun _ _ _ h => h) (Or.inl ⟨by rfl, ?_⟩) (by assumption) ?_
        rotate_left 1
        · intro W' hSw
          obtain ⟨hS1, hS2⟩ := hSw
          go_simp
          try with_reducible rfl
        try simp only [Act.put, List.setIfInBounds_toArray, List.set_cons_zero, List.set_cons_succ]
        refine wpAnyH_take (i := 8) (oi := ⟨_, _, _, _, _, _⟩) (v := ?_) rfl (by kernel_rfl) (by kernel_rfl) (by kernel_rfl) (fun _ _ _ h => h) (Or.inl ⟨by rfl, ?_⟩) (by assumption) ?_
        rotate_left 1
        · intro W' hSw
          obtain ⟨hS1, hS2⟩ := hSw
          go_simp
          try with_reducible rfl
        try simp only [Act.put, List.setIfInBounds_toArray, List.set_cons_zero, List.set_cons_succ]
        refine wpAnyH_take (i := 9) (oi := ⟨_, _, _, _, _, _⟩) (v := ?_) rfl (by kernel_rfl) (by kernel_rfl) (by kernel_rfl) (fun _ _ _ h => h) (Or.inl ⟨by rfl, ?_⟩) (by assumption) ?_
        rotate_left 1
        · intro W' hSw
          obtain ⟨hS1, hS2⟩ := hSw
          go_simp
          try with_reducible rfl
        try simp only [Act.put, List.setIfInBounds_toArray, List.set_cons_zero, List.set_cons_succ]
        refine wpAnyH_take (i := 10) (oi := ⟨_, _, _, _, _, _⟩) (v := ?_) rfl (by kernel_rfl) (by kernel_rfl) (by kernel_rfl) (fun _ _ _ h => h) (Or.inl ⟨by rfl, ?_⟩) (by assumption) ?_
        rotate_left 1
        · intro W' hSw
          obtain ⟨hS1, hS2⟩ := hSw
          go_simp
          try with_reducible rfl
        try simp only [Act.put, List.setIfInBounds_toArray, List.set_cons_zero, List.set_cons_succ]
        refine wpAnyH_take (i := 11) (oi := ⟨_, _, _, _, _, _⟩) (v := ?_) rfl (by kernel_rfl) (by kernel_rfl) (by kernel_rfl) (fun _ _ _ h => h) (Or.inl ⟨by rfl, ?_⟩) (by assumption) ?_
        rotate_left 1
        · intro W' hSw
          obtain ⟨hS1, hS2⟩ := hSw
          go_simp
          try with_reducible rfl
        try simp only [Act.put, List.setIfInBounds_toArray, List.set_cons_zero, List.set_cons_succ]
        refine wpAnyH_take (i := 12) (oi := ⟨_, _, _, _, _, _⟩) (v := ?_) rfl (by kernel_rfl) (by kernel_rfl) (by kernel_rfl) (fun _ _ _ h => h) (Or.inl ⟨by rfl, ?_⟩) (by assumption) ?_
        rotate_left 1
        · intro W' hSw
          obtain ⟨hS1, hS2⟩ := hSw
          go_simp
          try with_reducible rfl
        try simp only [Act.put, List.setIfInBounds_toArray, List.set_cons_zero, List.set_cons_succ]
        refine wpAnyH_take (i := 13) (oi := ⟨_, _, _, _, _, _⟩) (v := ?_) rfl (by kernel_rfl) (by kernel_rfl) (by kernel_rfl) (fun _ _ _ h => h) (Or.inl ⟨by rfl, ?_⟩) (by assumption) ?_
        rotate_left 1
        · intro W' hSw
          obtain ⟨hS1, hS2⟩ := hSw
          go_simp
          try with_reducible rfl
        try simp only [Act.put, List.setIfInBounds_toArray, List.set_cons_zero, List.set_cons_succ]
        refine wpAnyH_take (i := 14) (oi := ⟨_, _, _, _, _, _⟩) (v := ?_) rfl (by kernel_rfl) (by kernel_rfl) (by kernel_rfl) (fun _ _ _ h => h) (Or.inl ⟨by rfl, ?_⟩) (by assumption) ?_
        rotate_left 1
        · intro W' hSw
          obtain ⟨hS1, hS2⟩ := hSw
          go_simp
          try with_reducible rfl
        try simp only [Act.put, List.setIfInBounds_toArray, List.set_cons_zero, List.set_cons_succ]
        refine wpAnyH_take (i := 15) (oi := ⟨_, _, _, _, _, _⟩) (v := ?_) rfl (by kernel_rfl) (by kernel_rfl) (by kernel_rfl) (fun _ _ _ h => h) (Or.inl ⟨by rfl, ?_⟩) (by assumption) ?_
        rotate_left 1
        · intro W' hSw
          obtain ⟨hS1, hS2⟩ := hSw
          go_simp
          try with_reducible rfl
        try simp only [Act.put, List.setIfInBounds_toArray, List.set_cons_zero, List.set_cons_succ]
        refine wpAnyH_ready (rs := [16]) (by kernel_rfl) (by simp) ?_
        refine AllReadyH.cons (o := ⟨_, _, _, _, _, _⟩) rfl (fun K hK => ?_) AllReadyH.nil
        go_simp
        refine (newSend_no W1.drew x.chain x.from_ x.dest x.to_ x.nonce x.fee (some ⟨bx, 10, none⟩) 32).mono ?_
        rintro e w2 ⟨rfl, he⟩
        have hx2 : blk w2 bx = some x.enc := (he.blk (blk_lt hx1)).trans hx1
        have hq2 : blk w2 bq = some Tx.zero.enc := (he.blk (blk_lt hq1)).trans hq1
        have hf2 : free w2 bq = true := (he.free (blk_lt hq1)).trans hf1
        have HE2 : Hid (Ext w w2) := (HE.out.drew).trans he
        clear he
        dsimp only
        refine hK.out _ _ ?_ (fun hHeld => ?_)
        · exact ⟨hx2, trivial⟩
        clear hK K
        try simp only [Act.put, List.setIfInBounds_toArray, List.set_cons_zero, List.set_cons_succ]
        refine wpAnyH_take (i := 17) (oi := ⟨_, _, _, _, _, _⟩) (v := ?_) rfl (by kernel_rfl) (by kernel_rfl) (by kernel_rfl) (fun _ _ _ h => h) (Or.inl ⟨by rfl, ?_⟩) (by assumption) ?_
        rotate_left 1
        · intro W' hSw
          obtain ⟨hS1, hS2⟩ := hSw
          go_simp
          try with_reducible rfl
        try simp only [Act.put, List.setIfInBounds_toArray, List.set_cons_zero, List.set_cons_succ]
        refine wpAnyH_take (i := 18) (oi := ⟨_, _, _, _, _, _⟩) (v := ?_) rfl (by kernel_rfl) (by kernel_rfl) (by kernel_rfl) (fun _ _ _ h => h) (Or.inl ⟨by rfl, ?_⟩) (by assumption) ?_
        rotate_left 1
        · intro W' hSw
          obtain ⟨hS1, hS2⟩ := hSw
          go_simp
          try with_reducible rfl
        try simp only [Act.put, List.setIfInBounds_toArray, List.set_cons_zero, List.set_cons_succ]
        refine wpAnyH_ready (rs := [19]) (by kernel_rfl) (by simp) ?_
        refine AllReadyH.cons (o := ⟨_, _, _, _, _, _⟩) rfl (fun K hK => ?_) AllReadyH.nil
        go_simp
        refine hK.out _ _ ?_ (fun hHeld => ?_)
        · exact ⟨by rw [blk_put, if_neg n1]; exact hx2, trivial⟩
        clear hK K
        try simp only [Act.put, List.setIfInBounds_toArray, List.set_cons_zero, List.set_cons_succ]
        refine wpAnyH_take (i := 20) (oi := ⟨_, _, _, _, _, _⟩) (v := ?_) rfl (by kernel_rfl) (by kernel_rfl) (by kernel_rfl) (fun _ _ _ h => h) (Or.inl ⟨by rfl, ?_⟩) (by assumption) ?_
        rotate_left 1
        · intro W' hSw
          obtain ⟨hS1, hS2⟩ := hSw
          go_simp
          try with_reducible rfl
        try simp only [Act.put, List.setIfInBounds_toArray, List.set_cons_zero, List.set_cons_succ]
        refine wpAnyH_done (by kernel_rfl) ?_ _
        go_wp2_with fail
        refine ret_cell_tmp (C := Tx.enc Tx.zero) rfl rfl rfl ?_ (by kernel_rfl) (by rw [Tx.length_enc]; kernel_rfl) rfl ?_
        · first | (simp only [blk_drew, blk_put, if_true, hq2]; rfl) | (simp only [blk_put, if_true, hq2]; rfl) | exact hq2
        · refine ⟨?_, ?_⟩
          · rw [HF.out]; rfl
          · have hb := HB.out
            first | exact HE2.out.put_new _ _ (by omega) | exact (HE2.out.put_new _ _ (by omega)).drew | exact HE2.out
      · have HF : Hid (rebuildF x = ({ Tx.zero with kind := 4, chain := x.chain, from_ := x.from_, nonce := x.nonce, fee := x.fee, to_ := x.to_, dest := x.dest, size := UInt8.ofNat l, payload := keepP (x.payload.toList.take l) }, 0)) := by show _ = _; unfold rebuildF; rw [if_neg k1, if_neg k2, if_pos k4, if_neg (by rw [← HL.out]; exact hbig), if_neg (by rw [← HL.out]; exact hl0), ← HL.out]
        go_wp2_with fail
        refine wp_region_held_drew (S := fun W' => blk W' bx = some x.enc ∧ True) (by kernel_rfl) ⟨hx1, trivial⟩ (fun hHeld => ?_)
        refine wpAnyH_take (i := 0) (oi := ⟨_, _, _, _, _, _⟩) (v := ?_) rfl (by kernel_rfl) (by kernel_rfl) (by kernel_rfl) (fun _ _ _ h => h) (Or.inl ⟨by rfl, ?_⟩) (by assumption) ?_
        rotate_left 1
        · intro W' hSw
          obtain ⟨hS1, hS2⟩ := hSw
          go_simp
          try with_reducible rfl
        try simp only [Act.put, List.setIfInBounds_toArray, List.set_cons_zero, List.set_cons_succ]
        refine wpAnyH_take (i := 1) (oi := ⟨_, _, _, _, _, _⟩) (v := ?_) rfl (by kernel_rfl) (by kernel_rfl) (by kernel_rfl) (fun _ _ _ h => h) (Or.inl ⟨by rfl, ?_⟩) (by assumption) ?_
        rotate_left 1
        · intro W' hSw
          obtain ⟨hS1, hS2⟩ := hSw
          go_simp
          try with_reducible rfl
        try simp only [Act.put, List.setIfInBounds_toArray, List.set_cons_zero, List.set_cons_succ]
        refine wpAnyH_take (i := 2) (oi := ⟨_, _, _, _, _, _⟩) (v := ?_) rfl (by kernel_rfl) (by kernel_rfl) (by kernel_rfl) (fun _ _ _ h => h) (Or.inl ⟨by rfl, ?_⟩) (by assumption) ?_
        rotate_left 1
        · intro W' hSw
          obtain ⟨hS1, hS2⟩ := hSw
          go_simp
          try with_reducible rfl
        try simp only [Act.put, List.setIfInBounds_toArray, List.set_cons_zero, List.set_cons_succ]
        refine wpAnyH_take (i := 3) (oi := ⟨_, _, _, _, _, _⟩) (v := ?_) rfl (by kernel_rfl) (by kernel_rfl) (by kernel_rfl) (fun _ _ _ h => h) (Or.inl ⟨by rfl, ?_⟩) (by assumption) ?_
        rotate_left 1
        · intro W' hSw
          obtain ⟨hS1, hS2⟩ := hSw
          go_simp
          try with_reducible rfl
        try simp only [Act.put, List.setIfInBounds_toArray, List.set_cons_zero, List.set_cons_succ]
        refine wpAnyH_take (i := 4) (oi := ⟨_, _, _, _, _, _⟩) (v := ?_) rfl (by kernel_rfl) (by kernel_rfl) (by kernel_rfl) (fun _ _ _ h => h) (Or.inl ⟨by rfl, ?_⟩) (by assumption) ?_
        rotate_left 1
        · intro W' hSw
          obtain ⟨hS1, hS2⟩ := hSw
          go_simp
          try with_reducible rfl
        try simp only [Act.put, List.setIfInBounds_toArray, List.set_cons_zero, List.set_cons_succ]
        refine wpAnyH_take (i := 5) (oi := ⟨_, _, _, _, _, _⟩) (v := ?_) rfl (by kernel_rfl) (by kernel_rfl) (by kernel_rfl) (fun _ _ _ h => h) (Or.inl ⟨by rfl, ?_⟩) (by assumption) ?_
        rotate_left 1
        · intro W' hSw
          obtain ⟨hS1, hS2⟩ := hSw
          go_simp
          try with_reducible rfl
        try simp only [Act.put, List.setIfInBounds_toArray, List.set_cons_zero, List.set_cons_succ]
        refine wpAnyH_take (i := 6) (oi := ⟨_, _, _, _, _, _⟩) (v := ?_) rfl (by kernel_rfl) (by kernel_rfl) (by kernel_rfl) (fun _ _ _ h => h) (Or.inl ⟨by rfl, ?_⟩) (by assumption) ?_
        rotate_left 1
        · intro W' hSw
          obtain ⟨hS1, hS2⟩ := hSw
          go_simp
          try with_reducible rfl
        try simp only [Act.put, List.setIfInBounds_toArray, List.set_cons_zero, List.set_cons_succ]
        refine wpAnyH_take (i := 7) (oi := ⟨_, _, _, _, _, _⟩) (v := ?_) rfl (by kernel_rfl) (by kernel_rfl) (by kernel_rfl) (fun _ _ _ h => h) (Or.inl ⟨by rfl, ?_⟩) (by assumption) ?_
        rotate_left 1
        · intro W' hSw
          obtain ⟨hS1, hS2⟩ := hSw
          go_simp
          try with_reducible rfl
        try simp only [Act.put, List.setIfInBounds_toArray, List.set_cons_zero, List.set_cons_succ]
        refine wpAnyH_take (i := 8) (oi := ⟨_, _, _, _, _, _⟩) (v := ?_) rfl (by kernel_rfl) (by kernel_rfl) (by kernel_rfl) (fun _ _ _ h => h) (Or.inl ⟨by rfl, ?_⟩) (by assumption) ?_
        rotate_left 1
        · intro W' hSw
          obtain ⟨hS1, hS2⟩ := hSw
          go_simp
          try with_reducible rfl
        try simp only [Act.put, List.setIfInBounds_toArray, List.set_cons_zero, List.set_cons_succ]
        refine wpAnyH_take (i := 9) (oi := ⟨_, _, _, _, _, _⟩) (v := ?_) rfl (by kernel_rfl) (by kernel_rfl) (by kernel_rfl) (fun _ _ _ h => h) (Or.inl ⟨by rfl, ?_⟩) (by assumption) ?_
        rotate_left 1
        · intro W' hSw
          obtain ⟨hS1, hS2⟩ := hSw
          go_simp
          try with_reducible rfl
        try simp only [Act.put, List.setIfInBounds_toArray, List.set_cons_zero, List.set_cons_succ]
        refine wpAnyH_take (i := 10) (oi := ⟨_, _, _, _, _, _⟩) (v := ?_) rfl (by kernel_rfl) (by kernel_rfl) (by kernel_rfl) (fun _ _ _ h => h) (Or.inl ⟨by rfl, ?_⟩) (by assumption) ?_
        rotate_left 1
        · intro W' hSw
          obtain ⟨hS1, hS2⟩ := hSw
          go_simp
          try with_reducible rfl
        try simp only [Act.put, List.setIfInBounds_toArray, List.set_cons_zero, List.set_cons_succ]
        refine wpAnyH_take (i := 11) (oi := ⟨_, _, _, _, _, _⟩) (v := ?_) rfl (by kernel_rfl) (by kernel_rfl) (by kernel_rfl) (fun _ _ _ h => h) (Or.inl ⟨by rfl, ?_⟩) (by assumption) ?_
        rotate_left 1
        · intro W' hSw
          obtain ⟨hS1, hS2⟩ := hSw
          go_simp
          try with_reducible rfl
        try simp only [Act.put, List.setIfInBounds_toArray, List.set_cons_zero, List.set_cons_succ]
        refine wpAnyH_take (i := 12) (oi := ⟨_, _, _, _, _, _⟩) (v := ?_) rfl (by kernel_rfl) (by kernel_rfl) (by kernel_rfl) (fun _ _ _ h => h) (Or.inl ⟨by rfl, ?_⟩) (by assumption) ?_
        rotate_left 1
        · intro W' hSw
          obtain ⟨hS1, hS2⟩ := hSw
          go_simp
          try with_reducible rfl
        try simp only [Act.put, List.setIfInBounds_toArray, List.set_cons_zero, List.set_cons_succ]
        refine wpAnyH_take (i := 13) (oi := ⟨_, _, _, _, _, _⟩) (v := ?_) rfl (by kernel_rfl) (by kernel_rfl) (by kernel_rfl) (fun _ _ _ h => h) (Or.inl ⟨by rfl, ?_⟩) (by assumption) ?_
        rotate_left 1
        · intro W' hSw
          obtain ⟨hS1, hS2⟩ := hSw
          go_simp
          try with_reducible rfl
        try simp only [Act.put, List.setIfInBounds_toArray, List.set_cons_zero, List.set_cons_succ]
        refine wpAnyH_take (i := 14) (oi := ⟨_, _, _, _, _, _⟩) (v := ?_) rfl (by kernel_rfl) (by kernel_rfl) (by kernel_rfl) (fun _ _ _ h => h) (Or.inl ⟨by rfl, ?_⟩) (by assumption) ?_
        rotate_left 1
        · intro W' hSw
          obtain ⟨hS1, hS2⟩ := hSw
          go_simp
          try with_reducible rfl
        try simp only [Act.put, List.setIfInBounds_toArray, List.set_cons_zero, List.set_cons_succ]
        refine wpAnyH_take (i := 15) (oi := ⟨_, _, _, _, _, _⟩) (v := ?_) rfl (by kernel_rfl) (by kernel_rfl) (by kernel_rfl) (fun _ _ _ h => h) (Or.inl ⟨by rfl, ?_⟩) (by assumption) ?_
        rotate_left 1
        · intro W' hSw
          obtain ⟨hS1, hS2⟩ := hSw
          go_simp
          try with_reducible rfl
        try simp only [Act.put, List.setIfInBounds_toArray, List.set_cons_zero, List.set_cons_succ]
        refine wpAnyH_ready (rs := [16]) (by kernel_rfl) (by simp) ?_
        refine AllReadyH.cons (o := ⟨_, _, _, _, _, _⟩) rfl (fun K hK => ?_) AllReadyH.nil
        go_simp
        refine (newSend_ok W1.drew x.chain x.from_ x.dest x.to_ x.nonce x.fee W1.heap.size (some ⟨bx, 10, none⟩) l 32 (x.payload.toList.take l) (payload_bytes (W := W1.drew) hx1 l hl32 _ (by omega)) hl0 hl32).mono ?_
        rintro e w2 ⟨rfl, he⟩
        have hx2 : blk w2 bx = some x.enc := (he.blk (blk_lt hx1)).trans hx1
        have hq2 : blk w2 bq = some Tx.zero.enc := (he.blk (blk_lt hq1)).trans hq1
        have hf2 : free w2 bq = true := (he.free (blk_lt hq1)).trans hf1
        have HE2 : Hid (Ext w w2) := (HE.out.drew).trans he
        clear he
        dsimp only
        refine hK.out _ _ ?_ (fun hHeld => ?_)
        · exact ⟨hx2, trivial⟩
        clear hK K
        try simp only [Act.put, List.setIfInBounds_toArray, List.set_cons_zero, List.set_cons_succ]
        refine wpAnyH_take (i := 17) (oi := ⟨_, _, _, _, _, _⟩) (v := ?_) rfl (by kernel_rfl) (by kernel_rfl) (by kernel_rfl) (fun _ _ _ h => h) (Or.inl ⟨by rfl, ?_⟩) (by assumption) ?_
        rotate_left 1
        · intro W' hSw
          obtain ⟨hS1, hS2⟩ := hSw
          go_simp
          try with_reducible rfl
        try simp only [Act.put, List.setIfInBounds_toArray, List.set_cons_zero, List.set_cons_succ]
        refine wpAnyH_take (i := 18) (oi := ⟨_, _, _, _, _, _⟩) (v := ?_) rfl (by kernel_rfl) (by kernel_rfl) (by kernel_rfl) (fun _ _ _ h => h) (Or.inl ⟨by rfl, ?_⟩) (by assumption) ?_
        rotate_left 1
        · intro W' hSw
          obtain ⟨hS1, hS2⟩ := hSw
          go_simp
          try with_reducible rfl
        try simp only [Act.put, List.setIfInBounds_toArray, List.set_cons_zero, List.set_cons_succ]
        refine wpAnyH_ready (rs := [19]) (by kernel_rfl) (by simp) ?_
        refine AllReadyH.cons (o := ⟨_, _, _, _, _, _⟩) rfl (fun K hK => ?_) AllReadyH.nil
        go_simp
        refine hK.out _ _ ?_ (fun hHeld => ?_)
        · exact ⟨by rw [blk_put, if_neg n1]; exact hx2, trivial⟩
        clear hK K
        try simp only [Act.put, List.setIfInBounds_toArray, List.set_cons_zero, List.set_cons_succ]
        refine wpAnyH_take (i := 20) (oi := ⟨_, _, _, _, _, _⟩) (v := ?_) rfl (by kernel_rfl) (by kernel_rfl) (by kernel_rfl) (fun _ _ _ h => h) (Or.inl ⟨by rfl, ?_⟩) (by assumption) ?_
        rotate_left 1
        · intro W' hSw
          obtain ⟨hS1, hS2⟩ := hSw
          go_simp
          try with_reducible rfl
        try simp only [Act.put, List.setIfInBounds_toArray, List.set_cons_zero, List.set_cons_succ]
        refine wpAnyH_done (by kernel_rfl) ?_ _
        go_wp2_with fail
        refine ret_cell_tmp (C := Tx.enc { Tx.zero with kind := 4, chain := x.chain, from_ := x.from_, nonce := x.nonce, fee := x.fee, to_ := x.to_, dest := x.dest, size := UInt8.ofNat l, payload := keepP (x.payload.toList.take l) }) rfl rfl rfl ?_ (by kernel_rfl) (by rw [Tx.length_enc]; kernel_rfl) rfl ?_
        · first | (simp only [blk_drew, blk_put, if_true, hq2]; rfl) | (simp only [blk_put, if_true, hq2]; rfl) | exact hq2
        · refine ⟨?_, ?_⟩
          · rw [HF.out]; rfl
          · have hb := HB.out
            first | exact HE2.out.put_new _ _ (by omega) | exact (HE2.out.put_new _ _ (by omega)).drew | exact HE2.out
  by_cases k3 : w8 x.kind = 3
  · skip
    have HF : Hid (rebuildF x = ({ Tx.zero with kind := 3, chain := x.chain, from_ := x.from_, nonce := x.nonce, fee := x.fee, msg := x.msg }, 0)) := by show _ = _; unfold rebuildF; rw [if_neg k1, if_neg k2, if_neg k4, if_pos k3]
    go_wp2_with fail
    refine (newMint_any _ x.chain x.from_ x.nonce x.fee x.msg).mono ?_
    rintro e w2 ⟨rfl, he⟩
    have hq2 : blk w2 bq = some Tx.zero.enc := (he.blk (blk_lt hq1)).trans hq1
    have hf2 : free w2 bq = true := (he.free (blk_lt hq1)).trans hf1
    have HE2 : Hid (Ext w w2) := HE.out.trans he
    clear he
    go_wp2_with fail
    refine ret_cell_tmp (C := Tx.enc { Tx.zero with kind := 3, chain := x.chain, from_ := x.from_, nonce := x.nonce, fee := x.fee, msg := x.msg }) rfl rfl rfl ?_ (by kernel_rfl) (by rw [Tx.length_enc]; kernel_rfl) rfl ?_
    · first | (simp only [blk_drew, blk_put, if_true, hq2]; rfl) | (simp only [blk_put, if_true, hq2]; rfl) | exact hq2
    · refine ⟨?_, ?_⟩
      · rw [HF.out]; rfl
      · have hb := HB.out
        first | exact HE2.out.put_new _ _ (by omega) | exact (HE2.out.put_new _ _ (by omega)).drew | exact HE2.out
  by_cases k5 : w8 x.kind = 5
  · skip
    have HF : Hid (rebuildF x = ({ Tx.zero with kind := 5, chain := x.chain, from_ := x.msg.receiver, nonce := x.nonce, fee := x.fee, msg := x.msg }, 0)) := by show _ = _; unfold rebuildF; rw [if_neg k1, if_neg k2, if_neg k4, if_neg k3, if_pos k5]
    go_wp2_with fail
    refine (newConsume_any _ x.chain x.nonce x.fee x.msg).mono ?_
    rintro e w2 ⟨rfl, he⟩
    have hq2 : blk w2 bq = some Tx.zero.enc := (he.blk (blk_lt hq1)).trans hq1
    have hf2 : free w2 bq = true := (he.free (blk_lt hq1)).trans hf1
    have HE2 : Hid (Ext w w2) := HE.out.trans he
    clear he
    go_wp2_with fail
    refine ret_cell_tmp (C := Tx.enc { Tx.zero with kind := 5, chain := x.chain, from_ := x.msg.receiver, nonce := x.nonce, fee := x.fee, msg := x.msg }) rfl rfl rfl ?_ (by kernel_rfl) (by rw [Tx.length_enc]; kernel_rfl) rfl ?_
    · first | (simp only [blk_drew, blk_put, if_true, hq2]; rfl) | (simp only [blk_put, if_true, hq2]; rfl) | exact hq2
    · refine ⟨?_, ?_⟩
      · rw [HF.out]; rfl
      · have hb := HB.out
        first | exact HE2.out.put_new _ _ (by omega) | exact (HE2.out.put_new _ _ (by omega)).drew | exact HE2.out
  have HF : Hid (rebuildF x = (Tx.zero, 1)) := by show _ = _; unfold rebuildF; rw [if_neg k1, if_neg k2, if_neg k4, if_neg k3, if_neg k5]
  have hq2 := hq1
  go_wp2_with fail
  refine ret_cell_tmp (C := Tx.enc Tx.zero) rfl rfl rfl ?_ (by kernel_rfl) (by rw [Tx.length_enc]; kernel_rfl) rfl ?_
  · first | (simp only [blk_drew, blk_put, if_true, hq2]; rfl) | (simp only [blk_put, if_true, hq2]; rfl) | exact hq2
  · refine ⟨?_, ?_⟩
    · rw [HF.out]; rfl
    · have hb := HB.out
      first | exact HE.out.put_new _ _ (by omega) | exact (HE.out.put_new _ _ (by omega)).drew | exact HE.out
end Go.Proofs.Qxb6500786a
