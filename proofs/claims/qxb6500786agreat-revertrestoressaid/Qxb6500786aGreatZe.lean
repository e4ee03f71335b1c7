import Derived.DeepKeys2
import Derived.Test.Qxb6500786aGreatZd

import Derived.StillTailTactics
import Derived.Deep.QuietTactic
import Derived.BigQuiet
import Derived.Deep.RegionHeld
import Derived.Deep.CutRange
import Derived.Laws.ResultCell
import Derived.Laws.Rows
import Derived.DeepKeys
import Derived.DataBytes
import Derived.Laws.StructEq
import Derived.Laws.AppendOwn
import Derived.Laws.MakeOwn
import Derived.Lib.AppendStr
set_option linter.unusedSimpArgs false
set_option linter.unusedVariables false
namespace Go.Proofs.Qxb6500786aGreat
open Go.RowKit Go.Blk
attribute [local go_sem ↓] execOp_load execOp_store execOp_alloc
attribute [local go_sem] Tryz.ld24 Tryz.st24 Tryz.ld36 Tryz.st36 Tryz.ld28 Tryz.st28 Tryz.ld32 Tryz.st32 Tryz.ld33 Tryz.st33 Tryz.ld34 Tryz.st34 Tryz.ld5 Tryz.st5 Tryz.ld31 Tryz.st31 Tryz.ld30 Tryz.st30 Tryz.ld41 Tryz.st41 Tryz.ld44 Tryz.st44 Tryz.ld4 Tryz.st4 Tryz.ld173 Tryz.st173 Tryz.ld174 Tryz.st174 Tryz.ld95 Tryz.st95 Tryz.ld45 Tryz.st45 Tryz.ld207 Tryz.st207 Tryz.ld3 Tryz.st3 Tryz.ld189 Tryz.st189 Tryz.ld2 Tryz.st2 Tryz.ld9 Tryz.st9 Tryz.ld12 Tryz.st12 Tryz.ld21 Tryz.st21 Tryz.ld22 Tryz.st22 Tryz.ld46 Tryz.st46 Tryz.ld92 Tryz.st92 Tryz.ld94 Tryz.st94 Tryz.ld96 Tryz.st96 Tryz.ld97 Tryz.st97 Tryz.ld105 Tryz.st105 Tryz.ld117 Tryz.st117 Tryz.ld122 Tryz.st122 Tryz.ld123 Tryz.st123 Tryz.ld133 Tryz.st133 Tryz.ld155 Tryz.st155 Tryz.ld163 Tryz.st163 Tryz.ld190 Tryz.st190 Tryz.ld197 Tryz.st197 Tryz.ld201 Tryz.st201 Tryz.ld202 Tryz.st202 Tryz.ld209 Tryz.st209 Tryz.ld216 Tryz.st216 Tryz.ld230 Tryz.st230 Tryz.ld238 Tryz.st238 Tryz.ld242 Tryz.st242 Tryz.ld251 Tryz.st251 Tryz.ld260 Tryz.st260 Tryz.ld286 Tryz.st286 Tryz.ld292 Tryz.st292 Tryz.ld298 Tryz.st298 Tryz.ld309 Tryz.st309 Tryz.ld35 Tryz.st35 Tryz.ld48 Tryz.st48 Tryz.ld47 Tryz.st47 Tryz.ld79 Tryz.st79 Tryz.ld177 Tryz.st177 Tryz.ld180 Tryz.st180 Tryz.ld231 Tryz.st231 Tryz.ld232 Tryz.st232 Tryz.ld26 Tryz.st26 Tryz.ld38 Tryz.st38 Tryz.ld40 Tryz.st40 Tryz.ld43 Tryz.st43 Tryz.ld50 Tryz.st50 Tryz.ld52 Tryz.st52 Tryz.ld54 Tryz.st54 Tryz.ld81 Tryz.st81 Tryz.ld112 Tryz.st112 Tryz.ld120 Tryz.st120 Tryz.ld176 Tryz.st176 Tryz.ld179 Tryz.st179 Tryz.ld182 Tryz.st182 Tryz.ld184 Tryz.st184 Tryz.ld234 Tryz.st234 Tryz.ld236 Tryz.st236 Tryz.ld240 Tryz.st240 Tryz.ld246 Tryz.st246 Tryz.ld249 Tryz.st249 Tryz.al35 Tryz.al48 Tryz.al47 Tryz.al79 Tryz.al177 Tryz.al180 Tryz.al231 Tryz.al232 Tryz.al26 Tryz.al38 Tryz.al40 Tryz.al43 Tryz.al50 Tryz.al52 Tryz.al54 Tryz.al81 Tryz.al112 Tryz.al120 Tryz.al176 Tryz.al179 Tryz.al182 Tryz.al184 Tryz.al234 Tryz.al236 Tryz.al240 Tryz.al246 Tryz.al249
attribute [local go_sem] Player.length_enc Player.ok_enc Player.all_get Player.all_set Player.hand_get Player.hand_set Player.aside_get Player.aside_set Message.length_enc Message.ok_enc Message.all_get Message.all_set Message.kind_get Message.kind_set Message.from__get Message.from__set Message.to__get Message.to__set Message.sender_get Message.sender_set Message.receiver_get Message.receiver_set Message.seq_get Message.seq_set Message.token_get Message.token_set Message.amount_get Message.amount_set Message.size_get Message.size_set Message.payload_get Message.payload_set Tx.length_enc Tx.ok_enc Tx.all_get Tx.all_set Tx.kind_get Tx.kind_set Tx.chain_get Tx.chain_set Tx.from__get Tx.from__set Tx.nonce_get Tx.nonce_set Tx.fee_get Tx.fee_set Tx.to__get Tx.to__set Tx.dest_get Tx.dest_set Tx.token_get Tx.token_set Tx.amount_get Tx.amount_set Tx.size_get Tx.size_set Tx.payload_get Tx.payload_set Tx.msg_get Tx.msg_set Tx.msg_kind_get Tx.msg_kind_set Tx.msg_from__get Tx.msg_from__set Tx.msg_to__get Tx.msg_to__set Tx.msg_sender_get Tx.msg_sender_set Tx.msg_receiver_get Tx.msg_receiver_set Tx.msg_seq_get Tx.msg_seq_set Tx.msg_token_get Tx.msg_token_set Tx.msg_amount_get Tx.msg_amount_set Tx.msg_size_get Tx.msg_size_set Tx.msg_payload_get Tx.msg_payload_set GOp.length_enc GOp.ok_enc GOp.all_get GOp.all_set GOp.kind_get GOp.kind_set GOp.tx_get GOp.tx_set GOp.txs_get GOp.txs_set GOp.gas_get GOp.gas_set GOp.acct_get GOp.acct_set GOp.token_get GOp.token_set GOp.chain_get GOp.chain_set GOp.seq_get GOp.seq_set GOp.tx_kind_get GOp.tx_kind_set GOp.tx_chain_get GOp.tx_chain_set GOp.tx_from__get GOp.tx_from__set GOp.tx_nonce_get GOp.tx_nonce_set GOp.tx_fee_get GOp.tx_fee_set GOp.tx_to__get GOp.tx_to__set GOp.tx_dest_get GOp.tx_dest_set GOp.tx_token_get GOp.tx_token_set GOp.tx_amount_get GOp.tx_amount_set GOp.tx_size_get GOp.tx_size_set GOp.tx_payload_get GOp.tx_payload_set GOp.tx_msg_get GOp.tx_msg_set GOp.tx_msg_kind_get GOp.tx_msg_kind_set GOp.tx_msg_from__get GOp.tx_msg_from__set GOp.tx_msg_to__get GOp.tx_msg_to__set GOp.tx_msg_sender_get GOp.tx_msg_sender_set GOp.tx_msg_receiver_get GOp.tx_msg_receiver_set GOp.tx_msg_seq_get GOp.tx_msg_seq_set GOp.tx_msg_token_get GOp.tx_msg_token_set GOp.tx_msg_amount_get GOp.tx_msg_amount_set GOp.tx_msg_size_get GOp.tx_msg_size_set GOp.tx_msg_payload_get GOp.tx_msg_payload_set Summary.length_enc Summary.ok_enc Summary.all_get Summary.all_set Summary.height_get Summary.height_set Summary.txs_get Summary.txs_set Summary.gas_get Summary.gas_set Summary.fees_get Summary.fees_set Summary.sent_get Summary.sent_set Summary.took_get Summary.took_set Summary.minted_get Summary.minted_set Summary.burned_get Summary.burned_set Summary.root_get Summary.root_set Detail.length_enc Detail.ok_enc Detail.all_get Detail.all_set Detail.code_get Detail.code_set Detail.have__get Detail.have__set Detail.need_get Detail.need_set Slot.length_enc Slot.ok_enc Slot.all_get Slot.all_set Slot.nonce_get Slot.nonce_set Slot.balances_get Slot.balances_set Tree.length_enc Tree.ok_enc Tree.all_get Tree.all_set Tree.leaves_get Tree.leaves_set Mark.length_enc Mark.ok_enc Mark.all_get Mark.all_set Mark.from__get Mark.from__set Mark.seq_get Mark.seq_set Receipt.length_enc Receipt.ok_enc Receipt.all_get Receipt.all_set Receipt.code_get Receipt.code_set Receipt.hash_get Receipt.hash_set Receipt.index_get Receipt.index_set Receipt.gas_get Receipt.gas_set Receipt.fee_get Receipt.fee_set Receipt.hasSent_get Receipt.hasSent_set Receipt.sent_get Receipt.sent_set Receipt.hasTook_get Receipt.hasTook_set Receipt.took_get Receipt.took_set Receipt.sent_kind_get Receipt.sent_kind_set Receipt.sent_from__get Receipt.sent_from__set Receipt.sent_to__get Receipt.sent_to__set Receipt.sent_sender_get Receipt.sent_sender_set Receipt.sent_receiver_get Receipt.sent_receiver_set Receipt.sent_seq_get Receipt.sent_seq_set Receipt.sent_token_get Receipt.sent_token_set Receipt.sent_amount_get Receipt.sent_amount_set Receipt.sent_size_get Receipt.sent_size_set Receipt.sent_payload_get Receipt.sent_payload_set Receipt.took_kind_get Receipt.took_kind_set Receipt.took_from__get Receipt.took_from__set Receipt.took_to__get Receipt.took_to__set Receipt.took_sender_get Receipt.took_sender_set Receipt.took_receiver_get Receipt.took_receiver_set Receipt.took_seq_get Receipt.took_seq_set Receipt.took_token_get Receipt.took_token_set Receipt.took_amount_get Receipt.took_amount_set Receipt.took_size_get Receipt.took_size_set Receipt.took_payload_get Receipt.took_payload_set Store.length_enc Store.ok_enc Store.all_get Store.all_set Store.now_get Store.now_set Store.saved_get Store.saved_set GState.length_enc GState.ok_enc GState.all_get GState.all_set GState.kv_get GState.kv_set GState.tree_get GState.tree_set GState.stale_get GState.stale_set GState.touched_get GState.touched_set GState.kv_now_get GState.kv_now_set GState.kv_saved_get GState.kv_saved_set GState.tree_leaves_get GState.tree_leaves_set History.length_enc History.ok_enc History.all_get History.all_set History.ring_get History.ring_set History.closed_get History.closed_set Ledger.length_enc Ledger.ok_enc Ledger.all_get Ledger.all_set Ledger.chain_get Ledger.chain_set Ledger.st_get Ledger.st_set Ledger.height_get Ledger.height_set Ledger.open__get Ledger.open__set Ledger.gasLimit_get Ledger.gasLimit_set Ledger.past_get Ledger.past_set Ledger.begun_get Ledger.begun_set Ledger.sent_get Ledger.sent_set Ledger.took_get Ledger.took_set Ledger.receipts_get Ledger.receipts_set Ledger.st_kv_get Ledger.st_kv_set Ledger.st_tree_get Ledger.st_tree_set Ledger.st_stale_get Ledger.st_stale_set Ledger.st_touched_get Ledger.st_touched_set Ledger.st_kv_now_get Ledger.st_kv_now_set Ledger.st_kv_saved_get Ledger.st_kv_saved_set Ledger.st_tree_leaves_get Ledger.st_tree_leaves_set Ledger.past_ring_get Ledger.past_ring_set Ledger.past_closed_get Ledger.past_closed_set Ledger.begun_kv_get Ledger.begun_kv_set Ledger.begun_tree_get Ledger.begun_tree_set Ledger.begun_stale_get Ledger.begun_stale_set Ledger.begun_touched_get Ledger.begun_touched_set Ledger.begun_kv_now_get Ledger.begun_kv_now_set Ledger.begun_kv_saved_get Ledger.begun_kv_saved_set Ledger.begun_tree_leaves_get Ledger.begun_tree_leaves_set Purse.length_enc Purse.ok_enc Purse.all_get Purse.all_set Purse.st_get Purse.st_set Purse.n_get Purse.n_set Purse.account_get Purse.account_set Purse.token_get Purse.token_set Purse.amount_get Purse.amount_set Plan.length_enc Plan.ok_enc Plan.all_get Plan.all_set Plan.purse_get Plan.purse_set Plan.nonce_get Plan.nonce_set Plan.gasUsed_get Plan.gasUsed_set Plan.fees_get Plan.fees_set Plan.hasSupply_get Plan.hasSupply_set Plan.token_get Plan.token_set Plan.supply_get Plan.supply_set Plan.flowAt_get Plan.flowAt_set Plan.flow_get Plan.flow_set Plan.receipt_get Plan.receipt_set Plan.purse_st_get Plan.purse_st_set Plan.purse_n_get Plan.purse_n_set Plan.purse_account_get Plan.purse_account_set Plan.purse_token_get Plan.purse_token_set Plan.purse_amount_get Plan.purse_amount_set Plan.receipt_code_get Plan.receipt_code_set Plan.receipt_hash_get Plan.receipt_hash_set Plan.receipt_index_get Plan.receipt_index_set Plan.receipt_gas_get Plan.receipt_gas_set Plan.receipt_fee_get Plan.receipt_fee_set Plan.receipt_hasSent_get Plan.receipt_hasSent_set Plan.receipt_sent_get Plan.receipt_sent_set Plan.receipt_hasTook_get Plan.receipt_hasTook_set Plan.receipt_took_get Plan.receipt_took_set Plan.receipt_sent_kind_get Plan.receipt_sent_kind_set Plan.receipt_sent_from__get Plan.receipt_sent_from__set Plan.receipt_sent_to__get Plan.receipt_sent_to__set Plan.receipt_sent_sender_get Plan.receipt_sent_sender_set Plan.receipt_sent_receiver_get Plan.receipt_sent_receiver_set Plan.receipt_sent_seq_get Plan.receipt_sent_seq_set Plan.receipt_sent_token_get Plan.receipt_sent_token_set Plan.receipt_sent_amount_get Plan.receipt_sent_amount_set Plan.receipt_sent_size_get Plan.receipt_sent_size_set Plan.receipt_sent_payload_get Plan.receipt_sent_payload_set Plan.receipt_took_kind_get Plan.receipt_took_kind_set Plan.receipt_took_from__get Plan.receipt_took_from__set Plan.receipt_took_to__get Plan.receipt_took_to__set Plan.receipt_took_sender_get Plan.receipt_took_sender_set Plan.receipt_took_receiver_get Plan.receipt_took_receiver_set Plan.receipt_took_seq_get Plan.receipt_took_seq_set Plan.receipt_took_token_get Plan.receipt_took_token_set Plan.receipt_took_amount_get Plan.receipt_took_amount_set Plan.receipt_took_size_get Plan.receipt_took_size_set Plan.receipt_took_payload_get Plan.receipt_took_payload_set Move.length_enc Move.ok_enc Move.all_get Move.all_set Move.account_get Move.account_set Move.token_get Move.token_set Move.down_get Move.down_set Move.amount_get Move.amount_set Books.length_enc Books.ok_enc Books.all_get Books.all_set Books.sums_get Books.sums_set Books.stored_get Books.stored_set Books.marks_get Books.marks_set Pair.length_enc Pair.ok_enc Pair.all_get Pair.all_set Pair.key_get Pair.key_set Pair.value_get Pair.value_set
attribute [local go_sem] size_put size_ext blk_put free_put blk_alloc free_alloc blk_drew free_drew blk_ext free_ext lookOr_some putOr_some segAt_some cellAt_some storeIn_some put_put put_alloc_new length_arr ok_arr_u8 ok_arr_u32 ok_arr_u64 ok_arr_i64 ok_arr_sl cellsV_agg cellsV_int cellsV_bool cellsV_string cellsV_pointer cellsV_slice cellsV_sl ok_int ok_bool ok_string ok_pointer ok_slice ok_sl toList_arr seg_arr set_arr nth_splice nth_splice0 seg_splice seg_splice0 splice_splice splice_splice0 length_splice_if
attribute [local go_sem ↓] execOp_box
attribute [local go_sem] box_run nth_arr_u8 put_arr_u8 blk_drewN free_drewN put_drewN blk_raw free_raw
theorem el_eq48 : EqT (fun v : Vector UInt64 4 => arr u64v v) 48 (fun _ => True) := eqT_of (m := 5) (ks := List.replicate 4 (.i .u64)) (by kernel_rfl) (by kernel_rfl) (by kernel_rfl) (by omega) (by kernel_rfl) (by kernel_rfl) (fun a _ => fits_u64 a) (fun a b h => arr_u64_inj h) (by kernel_rfl)
theorem execOp_neq48 (a : Act) (dst : Option Tmp) (x y : Operand) (ty : TypeId) (pos : String) (after : Array Edge) (guard : Option (Nat × Bool)) :
    execOp a.eval { dst, op := .binOp .neq 48 x y 48, type := ty, pos, after, guard } = cmpNe 48 x y (a.eval x) (a.eval y) := rfl
attribute [local go_sem ↓] execOp_neq48 execOp_neq47
def auI (W : World) (bl bb : Nat) (L : PLg) (F : Nat → Value) (V : World) : Prop := F 0 = .pointer (some ⟨bl, 0, none⟩) ∧ F 3 = .pointer (some ⟨bb, 0, none⟩) ∧ ∃ i : Nat, F 4 = .int .i64 (i : Nat) ∧ Hid (i ≤ L.st.now.length ∧ ∃ B, BkI L.st.now i B ∧ BxI W [(bb, B.enc)] V)
set_option maxRecDepth 100000 in
theorem frame38L (f : Nat → Value) : frameN 38 f = #[f 0, f 1, f 2, f 3, f 4, f 5, f 6, f 7, f 8, f 9, f 10, f 11, f 12, f 13, f 14, f 15, f 16, f 17, f 18, f 19, f 20, f 21, f 22, f 23, f 24, f 25, f 26, f 27, f 28, f 29, f 30, f 31, f 32, f 33, f 34, f 35, f 36, f 37] := by kernel_rfl
set_option maxRecDepth 20000 in
set_option maxHeartbeats 2000000 in
theorem audit_ok (O : Own) (W : World) (bl n : Nat) (L : PLg) (hL : LedA O W bl L) (hLI : LI n L) (hn : n ≤ 1000000) (hMv : MkV L.st.now) : Calls Tryz.prog 69 #[.pointer (some ⟨bl, 0, none⟩)] W fun e V => e = .returned (.int .i64 0) ∧ W.Extends V := by
  obtain ⟨Q, hQ⟩ : ∃ Q : Ending → World → Prop, Q = fun e V => e = .returned (.int .i64 0) ∧ W.Extends V := ⟨_, rfl⟩
  rw [← hQ]
  have HQ := hid_of hQ
  have HL := hid_of hL
  have HLI := hid_of hLI
  have HMV := hid_of hMv
  have HLN : Hid (L.st.now.length ≤ 1000000000) := by
    show L.st.now.length ≤ _
    have := hLI.now.len
    omega
  have h1 := (BxI.start W).box Books.zero.enc 246
  obtain ⟨V1, hV1⟩ : ∃ V1 : World, V1 = W.alloc (.cells Books.zero.enc.toArray 246) := ⟨_, rfl⟩
  obtain ⟨bb, hbb⟩ : ∃ bb, bb = W.heap.size := ⟨_, rfl⟩
  rw [← hV1, ← hbb] at h1
  have HI0 : Hid (0 ≤ L.st.now.length ∧ ∃ B, BkI L.st.now 0 B ∧ BxI W [(bb, B.enc)] V1) := ⟨Nat.zero_le _, _, BkI.zero _, h1⟩
  have HV1 := hid_of hV1
  have HBB := hid_of hbb
  clear hQ hV1 hbb h1 hL hLI hMv
  go_enter Tryz.func69, Tryz.ntmps69
  go_upto_region 2 with fail
  rw [← HV1.out, ← HBB.out]
  clear HV1 HBB
  go_wp2_with fail
  refine wp_loop_f 38 (auI W bl bb L) (fun f _ => L.st.now.length - (intOf (f 4)).toNat) rfl ⟨rfl, rfl, 0, rfl, HI0⟩ ?_
  clear HI0
  intro F V hrel
  obtain ⟨f0, f3, i, f4, HI⟩ := hrel
  have H4 := hid_of f4
  rw [frame38L, f0, f3, f4]
  clear f0 f3 f4
  obtain ⟨hil, B, hBk, hB⟩ := HI.out
  clear HI
  have hA := HL.out.ext hB.1
  have hlen := len_any V bl 1 L.st.now hA.rd
  obtain ⟨nl, hnl⟩ : ∃ nl, nl = L.st.now.length := ⟨_, rfl⟩
  rw [← hnl] at hlen
  have HNL := hid_of hnl
  have HBK := hid_of hBk
  have HB := hid_of hB
  have HA := hid_of hA.rd
  clear hnl hBk hB hA
  go_wp2_with fail
  refine hlen.mono ?_
  clear hlen
  rintro e V2 ⟨rfl, hv2⟩
  obtain rfl := hv2.symm
  dsimp only
  by_cases hin : i < nl
  rotate_left 1
  · have hin' : ¬ (i : Int) < (nl : Int) := by omega
    have ei : i = L.st.now.length := by have := HNL.out; omega
    subst ei
    obtain ⟨d1, d2⟩ := HBK.out.done HLI.out.now (by omega)
    have kb := (HB.out.at (b := bb) (C := B.enc) (by simp)).1
    obtain ⟨vv, hvv⟩ : ∃ vv, vv = B.sums := ⟨_, rfl⟩
    have s1 : seg B.enc 0 4 = arr u64v vv := by rw [hvv]; exact Books.sums_get B
    have s2 : seg B.enc 4 4 = arr u64v vv := by rw [hvv, d1]; exact Books.stored_get B
    have hne : ∀ w X Y, (cmpNe 48 X Y (.agg (arr u64v vv).toArray) (.agg (arr u64v vv).toArray)).run Tryz.prog w = .ok (.value (.bool false)) w := fun w X Y => by
      have q := el_eq48.neq w X Y vv vv trivial trivial
      rw [eqA_self] at q
      exact q
    obtain ⟨mk, hmk⟩ : ∃ mk, mk = B.marks := ⟨_, rfl⟩
    have n8 : nth B.enc 8 = some (.int .u64 (w64 mk)) := by rw [hmk]; exact Books.marks_get B
    have lbe : B.enc.length = 9 := Books.length_enc B
    have h5 := HB.out.ext (extends_drewN (ext_Ext (Ext.refl V)) 1)
    have kb5 := (h5.at (b := bb) (C := B.enc) (by simp)).1
    have hct : Calls Tryz.prog 104 #[.pointer (some ⟨bl, 1, none⟩), .int .u64 6] V.drew fun e V' => e = .returned (.int .u64 (w64 mk)) ∧ V.drew.Extends V' := by
      rw [hmk, d2]
      exact counter_any V.drew bl 1 L.st.now (HL.out.ext h5.1).rd 6 (by decide)
    have hmm : (w64 mk != w64 mk) = false := by simp
    have H5 := hid_of h5
    generalize B.enc = BE at kb s1 s2 n8 lbe kb5 H5
    clear hil hin d1 d2 hvv hmk h5 HBK HB
    go_upto_region 9 with fail
    repeat go_step
    refine wp_region_F 6 (fun W' => blk W' bb = some BE) (by kernel_rfl) kb5 (fun hHeld => ?_)
    refine wpAnyF_take (i := 0) (oi := ⟨_, _, _, _, _, _⟩) (v := ?_) rfl (by kernel_rfl) (by kernel_rfl) (by kernel_rfl) (by kernel_rfl) (by kernel_rfl) (fun _ _ _ h => h) (Or.inl ⟨by rfl, ?_⟩) (by assumption) ?_
    rotate_left 1
    · intro W' hSw
      go_simp
      try with_reducible rfl
    try simp only [Act.put, List.setIfInBounds_toArray, List.set_cons_zero, List.set_cons_succ]
    refine wpAnyF_take (i := 1) (oi := ⟨_, _, _, _, _, _⟩) (v := ?_) rfl (by kernel_rfl) (by kernel_rfl) (by kernel_rfl) (by kernel_rfl) (by kernel_rfl) (fun _ _ _ h => h) (Or.inl ⟨by rfl, ?_⟩) (by assumption) ?_
    rotate_left 1
    · intro W' hSw
      go_simp
      try with_reducible rfl
    try simp only [Act.put, List.setIfInBounds_toArray, List.set_cons_zero, List.set_cons_succ]
    refine wpAnyF_take (i := 2) (oi := ⟨_, _, _, _, _, _⟩) (v := ?_) rfl (by kernel_rfl) (by kernel_rfl) (by kernel_rfl) (by kernel_rfl) (by kernel_rfl) (fun _ _ _ h => h) (Or.inl ⟨by rfl, ?_⟩) (by assumption) ?_
    rotate_left 1
    · intro W' hSw
      go_simp
      try with_reducible rfl
    try simp only [Act.put, List.setIfInBounds_toArray, List.set_cons_zero, List.set_cons_succ]
    refine wpAnyF_take (i := 3) (oi := ⟨_, _, _, _, _, _⟩) (v := ?_) rfl (by kernel_rfl) (by kernel_rfl) (by kernel_rfl) (by kernel_rfl) (by kernel_rfl) (fun _ _ _ h => h) (Or.inl ⟨by rfl, ?_⟩) (by assumption) ?_
    rotate_left 1
    · intro W' hSw
      go_simp
      try with_reducible rfl
    try simp only [Act.put, List.setIfInBounds_toArray, List.set_cons_zero, List.set_cons_succ]
    refine wpAnyF_take (i := 4) (oi := ⟨_, _, _, _, _, _⟩) (v := ?_) rfl (by kernel_rfl) (by kernel_rfl) (by kernel_rfl) (by kernel_rfl) (by kernel_rfl) (fun _ _ _ h => h) (Or.inl ⟨by rfl, ?_⟩) (by assumption) ?_
    rotate_left 1
    · intro W' hSw
      go_simp
      try with_reducible rfl
    try simp only [Act.put, List.setIfInBounds_toArray, List.set_cons_zero, List.set_cons_succ]
    refine wpAnyF_one (o := ⟨_, _, _, _, _, _⟩) (i := 5) (by kernel_rfl) rfl rfl (fun K' hK => ?_)
    go_simp
    refine hct.mono ?_
    clear hct
    rintro e V6 ⟨rfl, hx6⟩
    dsimp only
    have h6 := H5.out.ext hx6
    have kb6 := (h6.at (b := bb) (C := BE) (by simp)).1
    refine hK.out _ _ kb6 (fun hHeld => ?_)
    clear hK K'
    try simp only [Act.put, List.setIfInBounds_toArray, List.set_cons_zero, List.set_cons_succ]
    refine wpAnyF_last (o := ⟨_, _, _, _, _, _⟩) (by kernel_rfl) rfl (fun K' hK => ?_)
    go_simp
    refine hK.out _ _ ?_
    clear hK K'
    try simp only [Act.put, List.setIfInBounds_toArray, List.set_cons_zero, List.set_cons_succ]
    refine wpAnyF_done (by kernel_rfl) ?_ _
    clear hHeld
    have hab := auditBlock_ok _ V6 bl n L (HL.out.ext h6.1) HLI.out hn
    have H6 := hid_of h6.1
    clear h6 hx6 kb6
    go_wp2_with fail
    refine hab.mono ?_
    clear hab
    rintro e V7 ⟨rfl, hx7⟩
    dsimp only
    have HP : Hid (Q (.returned (.int .i64 0)) V7) := by
      show Q _ _
      rw [HQ.out]
      exact ⟨rfl, H6.out.trans hx7⟩
    clear hx7
    go_wp2_with fail
    try (first | go_ret | go_ret2 | go_ret3 | go_end0)
    exact HP.out
  have hin' : (i : Int) < (nl : Int) := by omega
  obtain ⟨p, hp⟩ : ∃ p, L.st.now[i]? = some p := ⟨_, List.getElem?_eq_getElem (by have := HNL.out; omega)⟩
  have hat := at_any V bl 1 L.st.now HA.out i p hp
  have HPP := hid_of hp
  have HIN : Hid (i < L.st.now.length) := by show i < _; have := HNL.out; omega
  have hi9 : (i : Int) + 1 ≤ 1000000001 := by have := HLN.out; have := HIN.out; omega
  clear hp hil hin
  go_wp2_with fail
  refine hat.mono ?_
  clear hat
  rintro e V3 ⟨rfl, hx3⟩
  dsimp only
  have hau := auditRow_ok O W V3 bl bb n i L B p HL.out (HB.out.ext hx3) HLI.out hn HMV.out HBK.out HPP.out
  clear hx3
  go_wp2_with fail
  refine hau.mono ?_
  clear hau
  rintro e V4 ⟨rfl, B', hB1, hB2⟩
  dsimp only
  have HJ : Hid (i + 1 ≤ L.st.now.length ∧ ∃ B, BkI L.st.now (i + 1) B ∧ BxI W [(bb, B.enc)] V4) := ⟨HIN.out, B', hB1, hB2⟩
  clear hB1 hB2
  go_wp2_with fail
  refine ⟨rfl, rfl, ⟨rfl, rfl, i + 1, rfl, HJ⟩, ?_⟩
  show L.st.now.length - ((i : Int) + 1).toNat < L.st.now.length - (intOf (F 4)).toNat
  rw [H4.out]
  show L.st.now.length - (i + 1) < L.st.now.length - i
  have := HIN.out
  omega
set_option maxRecDepth 20000 in
set_option maxHeartbeats 2000000 in
theorem auditRoot_ok (O : Own) (W : World) (bl : Nat) (L : PLg) (hL : LedA O W bl L) (hC : CI L) (hms : ∀ l ∈ L.st.saved, l.length ≤ 1000000000) : Calls Tryz.prog 70 #[.pointer (some ⟨bl, 0, none⟩)] W fun e V => e = .returned (.int .i64 0) ∧ ∃ O', LedA O' V bl (rotL L) ∧ Lg (lgP bl) O W O' V := by
  obtain ⟨Q, hQ⟩ : ∃ Q : Ending → World → Prop, Q = fun e V => e = .returned (.int .i64 0) ∧ ∃ O', LedA O' V bl (rotL L) ∧ Lg (lgP bl) O W O' V := ⟨_, rfl⟩
  rw [← hQ]
  have HQ := hid_of hQ
  have HL := hid_of hL
  have hcl : Calls Tryz.prog 118 #[.pointer (some ⟨bl, 1, none⟩)] W fun e V => ∃ sn' ss', e = .returned (.agg (gOf L.st sn' ss').enc.toArray) ∧ W.Extends V ∧ NewRows W V sn' ss' L.st.now L.st.saved := by
    obtain ⟨sn, ss, bn, ms, mt, mr, hA⟩ := hL
    have hS := hA.st
    exact clone_any W bl 1 _ L.st sn ss hA.hblk (by rw [Ledger.st_get]; rfl) (by rw [Ledger.length_enc]; omega) ((RowL.rw Pair.length_enc hA.now).1) hA.sav.rd hA.sml hms hA.dep
  have HSM : Hid (L.st.now.length ≤ 1000000000) := by
    obtain ⟨sn, ss, bn, ms, mt, mr, hA⟩ := hL
    exact hA.sml
  obtain ⟨S2, hS2⟩ : ∃ S2 : PSt, S2 = { L.st with stale := 18446744073709551615 } := ⟨_, rfl⟩
  have HRT : Hid (rootD S2 = rootD L.st) := by
    show _ = _
    have c2 : CohS S2 := by
      intro i hi hb
      rw [hS2] at hb
      exfalso
      have : (18446744073709551615 : UInt64).toNat.testBit i = true := by
        show (18446744073709551615 : Nat).testBit i = true
        have e : (18446744073709551615 : Nat) = 2 ^ 64 - 1 := by decide
        rw [e, Nat.testBit_two_pow_sub_one]
        simpa using hi
      rw [this] at hb
      cases hb
    rw [c2.root, hC.coh.root, hS2]
  have HS2 := hid_of hS2
  clear hQ hL hC hS2
  go_enter Tryz.func70, Tryz.ntmps70
  go_wp2_with fail
  refine hcl.mono ?_
  clear hcl
  rintro e V2 ⟨sn', ss', rfl, hx2, hN⟩
  dsimp only
  obtain ⟨gE, hgE⟩ : ∃ gE, gE = (gOf L.st sn' ss').enc := ⟨_, rfl⟩
  obtain ⟨gE2, hgE2⟩ : ∃ gE2, gE2 = (gOf S2 sn' ss').enc := ⟨_, rfl⟩
  have hsp : splice (gOf L.st sn' ss').enc 2050 [.int .u64 18446744073709551615] = gE2 := by
    rw [hgE2, HS2.out]
    exact GState.stale_set (gOf L.st sn' ss') 18446744073709551615
  obtain ⟨bf, hbf⟩ : ∃ bf, bf = V2.heap.size := ⟨_, rfl⟩
  obtain ⟨V3, hV3⟩ : ∃ V3 : World, V3 = V2.alloc (.cells gE2.toArray 179) := ⟨_, rfl⟩
  have k3 : blk V3 bf = some gE2 := by rw [hV3, blk_alloc, if_pos hbf]
  have f3 : free V3 bf = true := by rw [hV3, free_alloc, if_pos hbf]
  obtain ⟨V4, hV4⟩ : ∃ V4 : World, V4 = V3.drew := ⟨_, rfl⟩
  have hx4 : V2.Extends V4 := by
    rw [hV4, hV3]
    exact extends_drewN (extends_alloc (ext_Ext (Ext.refl _)) _) 1
  have k4 : blk V4 bf = some gE2 := by rw [hV4]; exact k3
  have f4 : free V4 bf = true := by rw [hV4]; exact f3
  have lg2 : gE2.length = 2060 := by rw [hgE2]; exact GState.length_enc _
  have hr1 := root_any V4 bf 0 gE2 S2 sn' ss' (by rw [k4, splice_all _ _ (by rw [lg2, GState.length_enc]), hgE2]) f4 (by omega) (fun V' hW => by
    have q := (hN.rd).1
    rw [HS2.out]
    exact q.grow (hW.ext hx4 (by rw [hbf]; exact Nat.le_refl _))) (by rw [HS2.out]; exact HSM.out)
  rw [HRT.out] at hr1
  have HX4 := hid_of (hx2.trans hx4)
  have HWE : Hid (∀ V', Wb bf V4 V' → W.Extends V') := fun V' hW => hW.ext (hx2.trans hx4) (by rw [hbf]; exact hx2.size)
  have HV4 := hid_of hV4
  have HV3 := hid_of hV3
  have HBF := hid_of hbf
  clear hx2 hN hgE hgE2 hV4 hV3 hbf hx4 lg2
  go_upto_region 3 with fail
  rw [← HV3.out, ← HBF.out]
  repeat go_step
  refine wp_region_F 5 (fun W' => True) (by kernel_rfl) trivial (fun hHeld => ?_)
  rw [← HV4.out]
  clear HV3 HBF HV4 k3 f3
  refine wpAnyF_take (i := 1) (oi := ⟨_, _, _, _, _, _⟩) (v := ?_) rfl (by kernel_rfl) (by kernel_rfl) (by kernel_rfl) (by kernel_rfl) (by kernel_rfl) (fun _ _ _ h => h) (Or.inl ⟨by rfl, ?_⟩) (by assumption) ?_
  rotate_left 1
  · intro W' hSw
    go_simp
    try with_reducible rfl
  try simp only [Act.put, List.setIfInBounds_toArray, List.set_cons_zero, List.set_cons_succ]
  refine wpAnyF_take (i := 2) (oi := ⟨_, _, _, _, _, _⟩) (v := ?_) rfl (by kernel_rfl) (by kernel_rfl) (by kernel_rfl) (by kernel_rfl) (by kernel_rfl) (fun _ _ _ h => h) (Or.inl ⟨by rfl, ?_⟩) (by assumption) ?_
  rotate_left 1
  · intro W' hSw
    go_simp
    try with_reducible rfl
  try simp only [Act.put, List.setIfInBounds_toArray, List.set_cons_zero, List.set_cons_succ]
  refine wpAnyF_take (i := 3) (oi := ⟨_, _, _, _, _, _⟩) (v := ?_) rfl (by kernel_rfl) (by kernel_rfl) (by kernel_rfl) (by kernel_rfl) (by kernel_rfl) (fun _ _ _ h => h) (Or.inl ⟨by rfl, ?_⟩) (by assumption) ?_
  rotate_left 1
  · intro W' hSw
    go_simp
    try with_reducible rfl
  try simp only [Act.put, List.setIfInBounds_toArray, List.set_cons_zero, List.set_cons_succ]
  refine wpAnyF_one (o := ⟨_, _, _, _, _, _⟩) (i := 0) (by kernel_rfl) rfl rfl (fun K' hK => ?_)
  go_simp
  refine hr1.mono ?_
  clear hr1
  rintro e V5 ⟨rfl, -, -, hW5⟩
  dsimp only
  refine hK.out _ _ trivial (fun hHeld => ?_)
  clear hK K'
  try simp only [Act.put, List.setIfInBounds_toArray, List.set_cons_zero, List.set_cons_succ]
  have hx5 := HWE.out V5 hW5
  have hL5 := HL.out.ext hx5
  have hr2 := hL5.root
  obtain ⟨D0, hD0⟩ : ∃ D0, D0 = rootD L.st := ⟨_, rfl⟩
  rw [← hD0] at hr2 ⊢
  have hDD : ∀ w X Y, (cmpNe 47 X Y (.agg (arr u8v D0).toArray) (.agg (arr u8v D0).toArray)).run Tryz.prog w = .ok (.value (.bool false)) w := fun w X Y => by rw [neq47, eqA_self]; rfl
  clear hD0
  refine wpAnyF_one (o := ⟨_, _, _, _, _, _⟩) (i := 4) (by kernel_rfl) rfl rfl (fun K' hK => ?_)
  go_simp
  refine hr2.mono ?_
  clear hr2
  rintro e V6 ⟨rfl, O6, hL6, hg6⟩
  dsimp only
  refine hK.out _ _ trivial (fun hHeld => ?_)
  clear hK K'
  try simp only [Act.put, List.setIfInBounds_toArray, List.set_cons_zero, List.set_cons_succ]
  refine wpAnyF_last (o := ⟨_, _, _, _, _, _⟩) (by kernel_rfl) rfl (fun K' hK => ?_)
  go_simp
  refine hK.out _ _ ?_
  clear hK K'
  try simp only [Act.put, List.setIfInBounds_toArray, List.set_cons_zero, List.set_cons_succ]
  refine wpAnyF_done (by kernel_rfl) ?_ _
  clear hHeld
  have HP : Hid (Q (.returned (.int .i64 0)) V6) := by
    show Q _ _
    rw [HQ.out]
    refine ⟨rfl, O6, hL6, ?_⟩
    have q1 : Lg (lgP bl) O W (lab O W.heap.size .no) V5 := Lg.growO hx5 (fun k hk => lab_lt hk)
    exact q1.trans (hg6.mono (fun l hl => ⟨0, hl⟩))
  clear hx5 hL5 hL6 hg6 hW5
  go_wp2_with fail
  try (first | go_ret | go_ret2 | go_ret3 | go_end0)
  exact HP.out
end Go.Proofs.Qxb6500786aGreat
