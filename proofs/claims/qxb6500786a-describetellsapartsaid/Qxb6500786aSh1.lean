import Derived.Test.Qxb6500786aBase
import Derived.StillTailTactics
import Derived.Deep.QuietTactic
import Derived.BigQuiet
import Derived.Deep.RegionHeld
import Derived.Deep.CutRange
import Derived.Laws.ResultCell
import Derived.Laws.Rows
import Derived.DeepKeys
import Derived.Laws.StructEq
set_option linter.unusedSimpArgs false
set_option linter.unusedVariables false
namespace Go.Proofs.Qxb6500786a
open Go.RowKit Go.Blk
attribute [local go_sem ↓] execOp_load execOp_store execOp_alloc
attribute [local go_sem] Try.ld33 Try.st33 Try.ld24 Try.st24 Try.ld29 Try.st29 Try.ld30 Try.st30 Try.ld31 Try.st31 Try.ld5 Try.st5 Try.ld28 Try.st28 Try.ld27 Try.st27 Try.ld26 Try.st26 Try.ld2 Try.st2 Try.ld3 Try.st3 Try.ld4 Try.st4 Try.ld9 Try.st9 Try.ld12 Try.st12 Try.ld21 Try.st21 Try.ld22 Try.st22 Try.ld41 Try.st41 Try.ld50 Try.st50 Try.ld55 Try.st55 Try.ld63 Try.st63 Try.ld78 Try.st78 Try.ld87 Try.st87 Try.ld91 Try.st91 Try.ld32 Try.st32 Try.ld47 Try.st47 Try.ld52 Try.st52 Try.ld71 Try.st71 Try.ld35 Try.st35 Try.ld37 Try.st37 Try.ld39 Try.st39 Try.al32 Try.al47 Try.al52 Try.al71 Try.al35 Try.al37 Try.al39
attribute [local go_sem] Message.length_enc Message.ok_enc Message.all_get Message.all_set Message.kind_get Message.kind_set Message.from__get Message.from__set Message.to__get Message.to__set Message.sender_get Message.sender_set Message.receiver_get Message.receiver_set Message.seq_get Message.seq_set Message.token_get Message.token_set Message.amount_get Message.amount_set Message.size_get Message.size_set Message.payload_get Message.payload_set Tx.length_enc Tx.ok_enc Tx.all_get Tx.all_set Tx.kind_get Tx.kind_set Tx.chain_get Tx.chain_set Tx.from__get Tx.from__set Tx.nonce_get Tx.nonce_set Tx.fee_get Tx.fee_set Tx.to__get Tx.to__set Tx.dest_get Tx.dest_set Tx.token_get Tx.token_set Tx.amount_get Tx.amount_set Tx.size_get Tx.size_set Tx.payload_get Tx.payload_set Tx.msg_get Tx.msg_set Tx.msg_kind_get Tx.msg_kind_set Tx.msg_from__get Tx.msg_from__set Tx.msg_to__get Tx.msg_to__set Tx.msg_sender_get Tx.msg_sender_set Tx.msg_receiver_get Tx.msg_receiver_set Tx.msg_seq_get Tx.msg_seq_set Tx.msg_token_get Tx.msg_token_set Tx.msg_amount_get Tx.msg_amount_set Tx.msg_size_get Tx.msg_size_set Tx.msg_payload_get Tx.msg_payload_set GOp.length_enc GOp.ok_enc GOp.all_get GOp.all_set GOp.kind_get GOp.kind_set GOp.tx_get GOp.tx_set GOp.txs_get GOp.txs_set GOp.gas_get GOp.gas_set GOp.acct_get GOp.acct_set GOp.token_get GOp.token_set GOp.chain_get GOp.chain_set GOp.seq_get GOp.seq_set GOp.tx_kind_get GOp.tx_kind_set GOp.tx_chain_get GOp.tx_chain_set GOp.tx_from__get GOp.tx_from__set GOp.tx_nonce_get GOp.tx_nonce_set GOp.tx_fee_get GOp.tx_fee_set GOp.tx_to__get GOp.tx_to__set GOp.tx_dest_get GOp.tx_dest_set GOp.tx_token_get GOp.tx_token_set GOp.tx_amount_get GOp.tx_amount_set GOp.tx_size_get GOp.tx_size_set GOp.tx_payload_get GOp.tx_payload_set GOp.tx_msg_get GOp.tx_msg_set GOp.tx_msg_kind_get GOp.tx_msg_kind_set GOp.tx_msg_from__get GOp.tx_msg_from__set GOp.tx_msg_to__get GOp.tx_msg_to__set GOp.tx_msg_sender_get GOp.tx_msg_sender_set GOp.tx_msg_receiver_get GOp.tx_msg_receiver_set GOp.tx_msg_seq_get GOp.tx_msg_seq_set GOp.tx_msg_token_get GOp.tx_msg_token_set GOp.tx_msg_amount_get GOp.tx_msg_amount_set GOp.tx_msg_size_get GOp.tx_msg_size_set GOp.tx_msg_payload_get GOp.tx_msg_payload_set
attribute [local go_sem] size_put size_ext blk_put free_put blk_alloc free_alloc blk_drew free_drew blk_ext free_ext lookOr_some putOr_some segAt_some cellAt_some storeIn_some put_put put_alloc_new length_arr ok_arr_u8 ok_arr_u32 ok_arr_u64 ok_arr_i64 ok_arr_sl cellsV_agg cellsV_int cellsV_bool cellsV_string cellsV_pointer cellsV_slice cellsV_sl ok_int ok_bool ok_string ok_pointer ok_slice ok_sl toList_arr seg_arr set_arr nth_splice nth_splice0 seg_splice seg_splice0 splice_splice splice_splice0 length_splice_if
attribute [local go_sem ↓] execOp_box
attribute [local go_sem] box_run nth_arr_u8 put_arr_u8
set_option maxRecDepth 100000 in
theorem frame15 (f : Nat → Value) : frameN 15 f = #[f 0, f 1, f 2, f 3, f 4, f 5, f 6, f 7, f 8, f 9, f 10, f 11, f 12, f 13, f 14] := by kernel_rfl
def blankF (p : Vector UInt8 32) (k : Nat) : Bool := decide (∀ i : Fin 32, k ≤ i.val → p[i.val] = 0)
def blI (w : World) (p : Vector UInt8 32) (k : Nat) (f : Nat → Value) (W : World) : Prop :=
  f 2 = .pointer (some ⟨w.heap.size, 0, none⟩) ∧ ∃ i : Nat, k ≤ i ∧ i ≤ 32 ∧ f 5 = .int .i64 (i : Nat) ∧ Hid (∀ j (h : j < 32), k ≤ j → j < i → p[j] = 0) ∧ blk W w.heap.size = some (arr u8v p) ∧ Hid (Ext w W)
theorem w8_inj {x y : UInt8} (h : w8 x = w8 y) : x = y := by unfold w8 at h; exact UInt8.toNat_inj.1 (by omega)
theorem w8_zero {x : UInt8} : w8 x = 0 ↔ x = 0 := ⟨fun h => w8_inj (h.trans rfl), fun h => by rw [h]; rfl⟩
theorem w64_inj {x y : UInt64} (h : w64 x = w64 y) : x = y := by unfold w64 at h; exact UInt64.toNat_inj.1 (by omega)
theorem w64_zero {x : UInt64} : w64 x = 0 ↔ x = 0 := ⟨fun h => w64_inj (h.trans rfl), fun h => by rw [h]; rfl⟩
set_option maxRecDepth 20000 in
theorem isBlank_any (w : World) (p : Vector UInt8 32) (k : Nat) (hk : k ≤ 32) : Calls Try.prog 42 #[.agg (arr u8v p).toArray, .int .i64 (k : Nat)] w fun e w' => e = .returned (.bool (blankF p k)) ∧ Ext w w' := by
  go_enter Try.func42, Try.ntmps42
  go_wp2_with fail
  refine wp_loop_f 15 (blI w p k) (fun f _ => 32 - (intOf (f 5)).toNat) rfl ?_ ?_
  · exact ⟨rfl, k, Nat.le_refl _, hk, rfl, fun j h1 h2 h3 => by omega, by rw [blk_alloc, if_pos rfl], (Ext.refl w).alloc _⟩
  intro F W hrel
  obtain ⟨h2, i, hki, hi, h5, HN, hb, HE⟩ := hrel
  have H5 : Hid (F 5 = .int .i64 (i : Nat)) := h5
  rw [frame15, h2, h5]
  clear h2 h5
  by_cases hil : i < 32
  · have q0 : (0 : Int) ≤ (i : Int) := by omega
    have q1 : (i : Int) < 32 := by omega
    have q2 : ((i : Int)).toNat = i := by omega
    by_cases hz : p[i] = 0
    · have hzw : w8 p[i] = 0 := w8_zero.2 hz
      go_wp2_with fail
      refine ⟨rfl, rfl, ?_, ?_⟩
      · refine ⟨rfl, i + 1, by omega, by omega, ?_, ?_, hb, HE⟩
        · show Value.int .i64 _ = _
          go_num
        · show ∀ j, _
          intro j h1 h2 h3
          by_cases q : j < i
          · exact HN.out j h1 h2 q
          · obtain rfl : j = i := by omega
            exact hz
      · show 32 - (intOf (Value.int .i64 _)).toNat < 32 - (intOf (F 5)).toNat
        rw [H5.out]
        simp [intOf]; omega
    · have hzw : ¬ w8 p[i] = 0 := fun e => hz (w8_zero.1 e)
      have hzb : (w8 p[i] == 0) = false := by simp [hzw]
      go_wp2_with fail
      go_ret
      refine ⟨?_, HE.out⟩
      rw [show blankF p k = false from decide_eq_false fun h => hz (h ⟨i, hil⟩ hki)]
      rfl
  · obtain rfl : i = 32 := by omega
    go_wp2_with fail
    go_ret
    refine ⟨?_, HE.out⟩
    rw [show blankF p k = true from decide_eq_true fun j h2 => HN.out j.val j.isLt h2 j.isLt]
    rfl
/-- It answers a code that is not 'stray field'. -/
def NotStray (w : World) (Q : Prop) (e : Ending) (w' : World) : Prop := ∃ c : Int, e = .returned (.int .i64 c) ∧ c ≠ 14 ∧ (c = 0 → Q) ∧ Ext w w'
theorem isChain_any (w : World) (c : UInt8) : Calls Try.prog 44 #[.int .u8 (w8 c)] w fun e w' => ∃ b : Bool, e = .returned (.bool b) ∧ w' = w := by
  go_enter Try.func44, Try.ntmps44
  go_wp2_with fail
  all_goals (go_ret; exact ⟨_, rfl, rfl⟩)
theorem checkValue_any (w : World) (t : UInt8) (a : UInt64) : Calls Try.prog 38 #[.int .u8 (w8 t), .int .u64 (w64 a)] w fun e w' => NotStray w True e w' := by
  go_enter Try.func38, Try.ntmps38
  go_wp2_with fail
  all_goals (go_ret; exact ⟨_, rfl, by decide, fun _ => trivial, Ext.refl _⟩)
theorem checkRoute_any (w : World) (a b c : UInt8) : Calls Try.prog 39 #[.int .u8 (w8 a), .int .u8 (w8 b), .int .u8 (w8 c)] w fun e w' => NotStray w True e w' := by
  go_enter Try.func39, Try.ntmps39
  go_wp2_with fail
  refine (isChain_any w b).mono ?_
  rintro e w2 ⟨r, rfl, rfl⟩
  cases r <;> go_wp2_with fail
  all_goals (go_ret; exact ⟨_, rfl, by decide, fun _ => trivial, Ext.refl _⟩)
theorem checkPayload_any (w : World) (z : UInt8) (p : Vector UInt8 32) : Calls Try.prog 40 #[.int .u8 (w8 z), .agg (arr u8v p).toArray] w fun e w' => NotStray w (z.toNat ≤ 32 ∧ z.toNat ≠ 0 ∧ blankF p z.toNat = true) e w' := by
  by_cases h1 : (32 : Int) < w8 z
  · go_enter Try.func40, Try.ntmps40
    go_wp2_with fail
    go_ret
    exact ⟨_, rfl, by decide, fun h => absurd h (by decide), (Ext.refl _).alloc _⟩
  · by_cases h2 : w8 z = 0
    · go_enter Try.func40, Try.ntmps40
      go_wp2_with fail
      go_ret
      exact ⟨_, rfl, by decide, fun h => absurd h (by decide), (Ext.refl _).alloc _⟩
    · obtain ⟨n, hn⟩ : ∃ n, n = z.toNat := ⟨_, rfl⟩
      have hzn : w8 z = (n : Int) := by unfold w8; rw [hn]
      have h3 : n ≤ 32 := by omega
      have h4 : ¬ n = 0 := by omega
      have h2b : (w8 z == 0) = false := by simp [h2]
      have HN : Hid (n = z.toNat) := hn
      clear hn
      rw [hzn] at h1 h2 h2b ⊢
      go_enter Try.func40, Try.ntmps40
      go_wp2_with fail
      refine (isBlank_any _ p n h3).mono ?_
      rintro e w2 ⟨rfl, he2⟩
      have HE2 : Hid (Ext w w2) := ((Ext.refl w).alloc _).trans he2
      clear he2
      cases hbl : blankF p n with
      | true =>
        go_wp2_with fail
        go_ret
        exact ⟨_, rfl, by decide, fun _ => ⟨by rw [← HN.out]; exact h3, by rw [← HN.out]; exact h4, by rw [← HN.out]; exact hbl⟩, HE2.out⟩
      | false =>
        go_wp2_with fail
        go_ret
        exact ⟨_, rfl, by decide, fun h => absurd h (by decide), HE2.out⟩
end Go.Proofs.Qxb6500786a
