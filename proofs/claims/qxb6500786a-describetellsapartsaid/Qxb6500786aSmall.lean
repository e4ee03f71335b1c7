import Derived.Test.Qxb6500786aPln
import Derived.Test.Qxb6500786aOpen
import Derived.StillTailTactics
import Derived.Deep.QuietTactic
import Derived.BigQuiet
import Derived.Deep.RegionHeld
import Derived.Deep.CutRange
import Derived.Laws.ResultCell
import Derived.Laws.Rows
import Derived.DeepKeys
import Derived.DataBytes
import Derived.Laws.StructEq
set_option linter.unusedSimpArgs false
set_option linter.unusedVariables false
namespace Go.Proofs.Qxb6500786a
open Go.RowKit Go.Blk
attribute [local go_sem ↓] execOp_load execOp_store execOp_alloc
attribute [local go_sem] Try.ld33 Try.st33 Try.ld24 Try.st24 Try.ld29 Try.st29 Try.ld30 Try.st30 Try.ld31 Try.st31 Try.ld5 Try.st5 Try.ld28 Try.st28 Try.ld27 Try.st27 Try.ld26 Try.st26 Try.ld2 Try.st2 Try.ld3 Try.st3 Try.ld4 Try.st4 Try.ld9 Try.st9 Try.ld12 Try.st12 Try.ld21 Try.st21 Try.ld22 Try.st22 Try.ld41 Try.st41 Try.ld50 Try.st50 Try.ld55 Try.st55 Try.ld63 Try.st63 Try.ld78 Try.st78 Try.ld87 Try.st87 Try.ld91 Try.st91 Try.ld32 Try.st32 Try.ld47 Try.st47 Try.ld52 Try.st52 Try.ld71 Try.st71 Try.ld35 Try.st35 Try.ld37 Try.st37 Try.ld39 Try.st39 Try.al32 Try.al47 Try.al52 Try.al71 Try.al35 Try.al37 Try.al39
attribute [local go_sem] Message.length_enc Message.ok_enc Message.all_get Message.all_set Message.kind_get Message.kind_set Message.from__get Message.from__set Message.to__get Message.to__set Message.sender_get Message.sender_set Message.receiver_get Message.receiver_set Message.seq_get Message.seq_set Message.token_get Message.token_set Message.amount_get Message.amount_set Message.size_get Message.size_set Message.payload_get Message.payload_set Tx.length_enc Tx.ok_enc Tx.all_get Tx.all_set Tx.kind_get Tx.kind_set Tx.chain_get Tx.chain_set Tx.from__get Tx.from__set Tx.nonce_get Tx.nonce_set Tx.fee_get Tx.fee_set Tx.to__get Tx.to__set Tx.dest_get Tx.dest_set Tx.token_get Tx.token_set Tx.amount_get Tx.amount_set Tx.size_get Tx.size_set Tx.payload_get Tx.payload_set Tx.msg_get Tx.msg_set Tx.msg_kind_get Tx.msg_kind_set Tx.msg_from__get Tx.msg_from__set Tx.msg_to__get Tx.msg_to__set Tx.msg_sender_get Tx.msg_sender_set Tx.msg_receiver_get Tx.msg_receiver_set Tx.msg_seq_get Tx.msg_seq_set Tx.msg_token_get Tx.msg_token_set Tx.msg_amount_get Tx.msg_amount_set Tx.msg_size_get Tx.msg_size_set Tx.msg_payload_get Tx.msg_payload_set GOp.length_enc GOp.ok_enc GOp.all_get GOp.all_set GOp.kind_get GOp.kind_set GOp.tx_get GOp.tx_set GOp.txs_get GOp.txs_set GOp.gas_get GOp.gas_set GOp.acct_get GOp.acct_set GOp.token_get GOp.token_set GOp.chain_get GOp.chain_set GOp.seq_get GOp.seq_set GOp.tx_kind_get GOp.tx_kind_set GOp.tx_chain_get GOp.tx_chain_set GOp.tx_from__get GOp.tx_from__set GOp.tx_nonce_get GOp.tx_nonce_set GOp.tx_fee_get GOp.tx_fee_set GOp.tx_to__get GOp.tx_to__set GOp.tx_dest_get GOp.tx_dest_set GOp.tx_token_get GOp.tx_token_set GOp.tx_amount_get GOp.tx_amount_set GOp.tx_size_get GOp.tx_size_set GOp.tx_payload_get GOp.tx_payload_set GOp.tx_msg_get GOp.tx_msg_set GOp.tx_msg_kind_get GOp.tx_msg_kind_set GOp.tx_msg_from__get GOp.tx_msg_from__set GOp.tx_msg_to__get GOp.tx_msg_to__set GOp.tx_msg_sender_get GOp.tx_msg_sender_set GOp.tx_msg_receiver_get GOp.tx_msg_receiver_set GOp.tx_msg_seq_get GOp.tx_msg_seq_set GOp.tx_msg_token_get GOp.tx_msg_token_set GOp.tx_msg_amount_get GOp.tx_msg_amount_set GOp.tx_msg_size_get GOp.tx_msg_size_set GOp.tx_msg_payload_get GOp.tx_msg_payload_set
attribute [local go_sem] size_put size_ext blk_put free_put blk_alloc free_alloc blk_drew free_drew blk_ext free_ext lookOr_some putOr_some segAt_some cellAt_some storeIn_some put_put put_alloc_new length_arr ok_arr_u8 ok_arr_u32 ok_arr_u64 ok_arr_i64 ok_arr_sl cellsV_agg cellsV_int cellsV_bool cellsV_string cellsV_pointer cellsV_slice cellsV_sl ok_int ok_bool ok_string ok_pointer ok_slice ok_sl toList_arr seg_arr set_arr nth_splice nth_splice0 seg_splice seg_splice0 splice_splice splice_splice0 length_splice_if
attribute [local go_sem ↓] execOp_box
attribute [local go_sem] box_run nth_arr_u8 put_arr_u8
theorem ScriptAt.mono {W W' : World} {a : Option Addr} {len cap : Nat} {g : Nat → GOp} {dt : Nat → List Tx} (h : ScriptAt W a len cap g dt) (he : W.Extends W') : ScriptAt W' a len cap g dt := by
  obtain ⟨h1, h2, h3, h4⟩ := h
  refine ⟨h1, h2, fun i hi => ⟨(h3 i hi).1, ?_⟩, fun h0 => ?_⟩
  · obtain ⟨_, ⟨e1, e2, e3, e4⟩, e5⟩ := h3 i hi
    refine ⟨⟨e1, e2, e3, fun h0 => ?_⟩, e5⟩
    obtain ⟨bp, op, C, ha, hC, hl⟩ := e4 h0
    exact ⟨bp, op, C, ha, (he.blk (blk_lt hC)).trans hC, hl⟩
  · obtain ⟨b, o, C, ha, hC, hl⟩ := h4 h0
    exact ⟨b, o, C, ha, (he.blk (blk_lt hC)).trans hC, hl⟩
set_option maxRecDepth 100000 in
theorem frame25 (f : Nat → Value) : frameN 25 f = #[f 0, f 1, f 2, f 3, f 4, f 5, f 6, f 7, f 8, f 9, f 10, f 11, f 12, f 13, f 14, f 15, f 16, f 17, f 18, f 19, f 20, f 21, f 22, f 23, f 24] := by kernel_rfl
def zsI (w : World) (a : Option Addr) (len cap : Nat) (g : Nat → GOp) (f : Nat → Value) (W : World) : Prop :=
  f 0 = .slice a len cap ∧ W = w ∧ ∃ (i n : Nat), i ≤ len ∧ f 4 = .int .i64 (i : Nat) ∧ f 3 = .int .i64 (n : Nat) ∧ n ≤ 65536 ∧ ∀ j, j < i → (g j).txs.len ≤ 65536
set_option maxRecDepth 20000 in
set_option maxHeartbeats 2000000 in
theorem small_any (w : World) (a : Option Addr) (len cap : Nat) (g : Nat → GOp) (dt : Nat → List Tx) (hS : ScriptAt w a len cap g dt) :
    Calls Try.prog 7 #[.slice a len cap] w fun e w' => (∃ r : Bool, e = .returned (.bool r) ∧ (r = true → len ≤ 65536 ∧ ∀ i, i < len → (g i).txs.len ≤ 65536)) ∧ w' = w := by
  have HS : Hid (ScriptAt w a len cap g dt) := hS
  have hm : len ≤ 9223372036854775807 := by have := hS.1; have := hS.2.1; simp only [maxLen] at this; omega
  clear hS
  by_cases hl : len ≤ 65536
  · have hl' : ¬ (65536 : Int) < (len : Int) := by omega
    go_enter Try.func7, Try.ntmps7
    go_wp2_with fail
    refine wp_loop_f 25 (zsI w a len cap g) (fun f _ => len - (intOf (f 4)).toNat) rfl ?_ ?_
    · exact ⟨rfl, rfl, 0, len, by omega, rfl, rfl, hl, fun j h => by omega⟩
    intro F W hrel
    obtain ⟨h0, rfl, i, n, hi, h4, h3, hn, hall⟩ := hrel
    have H4 : Hid (F 4 = .int .i64 (i : Nat)) := h4
    have HA : Hid (∀ j, j < i → (g j).txs.len ≤ 65536) := hall
    rw [frame25, h0, h3, h4]
    clear h0 h3 h4 hall
    by_cases hil : i < len
    · obtain ⟨b, o, C, rfl, hC, hlen, hseg⟩ := HS.out.2.2.2 (by omega)
      have hs := hseg i hil
      have hdl := (HS.out.2.2.1 i hil).2
      obtain ⟨s, hsd⟩ : ∃ s, s = (g i).txs := ⟨_, rfl⟩
      have hnth : nth C (o + i * 90 + 84) = some (Sl.val s) := by
        have h1 := GOp.txs_get (g i)
        rw [← hs, ← hsd] at h1
        unfold nth at h1 ⊢
        unfold seg at h1
        rw [List.getElem?_take, if_pos (by omega), List.getElem?_drop] at h1
        exact h1
      have hsm : s.len ≤ 140737488351232 := by rw [hsd]; exact hdl.2
      obtain ⟨sa, sl, sc⟩ := s
      have HSD : Hid ((⟨sa, sl, sc⟩ : Sl) = (g i).txs) := hsd
      simp only [Sl.val] at hnth hsm
      clear hseg hs hdl hsd
      have q0 : (0 : Int) ≤ (i : Int) := by omega
      have q1 : (i : Int) < (len : Int) := by omega
      have q2 : ((i : Int)).toNat = i := by omega
      by_cases hbig : n + sl ≤ 65536
      · go_wp2_with fail
        refine ⟨rfl, rfl, ?_, ?_⟩
        · refine ⟨rfl, rfl, i + 1, n + sl, by omega, ?_, ?_, hbig, fun j hj => ?_⟩
          · show Value.int .i64 _ = _
            go_num
          · show Value.int .i64 _ = _
            go_num
          · by_cases hji : j = i
            · subst hji; rw [← HSD.out]; show sl ≤ 65536; omega
            · exact HA.out j (by omega)
        · show len - (intOf (Value.int .i64 _)).toNat < len - (intOf (F 4)).toNat
          rw [H4.out]
          simp [intOf]; omega
      · go_wp2_with fail
        go_ret
        exact ⟨⟨false, rfl, fun h => by simp at h⟩, rfl⟩
    · obtain rfl : i = len := by omega
      go_wp2_with fail
      go_ret
      exact ⟨⟨true, rfl, fun _ => ⟨hl, HA.out⟩⟩, rfl⟩
  · have hl' : (65536 : Int) < (len : Int) := by omega
    go_enter Try.func7, Try.ntmps7
    go_wp2_with fail
    go_ret
    exact ⟨⟨false, rfl, fun h => by simp at h⟩, rfl⟩
theorem chainOf_any (w : World) (a : Option Addr) (len cap : Nat) (g : Nat → GOp) (dt : Nat → List Tx) (hS : ScriptAt w a len cap g dt) : Calls Try.prog 8 #[.slice a len cap] w fun e w' => ∃ c : UInt8, e = .returned (.int .u8 (w8 c)) ∧ w' = w := by
  have hm : len ≤ 9223372036854775807 := by have := hS.1; have := hS.2.1; simp only [maxLen] at this; omega
  by_cases h0 : len = 0
  · subst h0
    go_enter Try.func8, Try.ntmps8
    go_wp2_with fail
    go_ret
    exact ⟨1, rfl, rfl⟩
  · obtain ⟨b, o, C, rfl, hC, hlen, hseg⟩ := hS.2.2.2 h0
    have hs := hseg 0 (by omega)
    obtain ⟨y, hy⟩ : ∃ y, y = (g 0).chain := ⟨_, rfl⟩
    have hnth : nth C (o + 88) = some (.int .u8 (w8 y)) := by
      have h1 := GOp.chain_get (g 0)
      rw [← hs, ← hy] at h1
      unfold nth at h1 ⊢
      unfold seg at h1
      rw [List.getElem?_take, if_pos (by omega), List.getElem?_drop] at h1
      simpa using h1
    have q1 : (0 : Int) < (len : Int) := by omega
    have q2 : o + 88 + 1 ≤ C.length := by omega
    clear hseg hs hS
    go_enter Try.func8, Try.ntmps8
    go_wp2_with fail
    · go_ret
      exact ⟨2, rfl, rfl⟩
    · go_ret
      exact ⟨1, rfl, rfl⟩
end Go.Proofs.Qxb6500786a
