import Derived.DeepKeys2
import Derived.Test.Qxb6500786aGreatZb
import Derived.Test.Qxb6500786aGreatNp
import Derived.Test.Qxb6500786aGreatNg

import Derived.StillTailTactics
import Derived.Deep.QuietTactic
import Derived.BigQuiet
import Derived.Deep.RegionHeld
import Derived.Deep.CutRange
import Derived.Laws.ResultCell
import Derived.Laws.Rows
import Derived.DeepKeys
import Derived.DataBytes
import Derived.Laws.StructEq
import Derived.Laws.AppendOwn
import Derived.Laws.MakeOwn
import Derived.Lib.AppendStr
set_option linter.unusedSimpArgs false
set_option linter.unusedVariables false
namespace Go.Proofs.Qxb6500786aGreat
open Go.RowKit Go.Blk
attribute [local go_sem ↓] execOp_load execOp_store execOp_alloc
attribute [local go_sem] Tryz.ld24 Tryz.st24 Tryz.ld36 Tryz.st36 Tryz.ld28 Tryz.st28 Tryz.ld32 Tryz.st32 Tryz.ld33 Tryz.st33 Tryz.ld34 Tryz.st34 Tryz.ld5 Tryz.st5 Tryz.ld31 Tryz.st31 Tryz.ld30 Tryz.st30 Tryz.ld41 Tryz.st41 Tryz.ld44 Tryz.st44 Tryz.ld4 Tryz.st4 Tryz.ld173 Tryz.st173 Tryz.ld174 Tryz.st174 Tryz.ld95 Tryz.st95 Tryz.ld45 Tryz.st45 Tryz.ld207 Tryz.st207 Tryz.ld3 Tryz.st3 Tryz.ld189 Tryz.st189 Tryz.ld2 Tryz.st2 Tryz.ld9 Tryz.st9 Tryz.ld12 Tryz.st12 Tryz.ld21 Tryz.st21 Tryz.ld22 Tryz.st22 Tryz.ld46 Tryz.st46 Tryz.ld92 Tryz.st92 Tryz.ld94 Tryz.st94 Tryz.ld96 Tryz.st96 Tryz.ld97 Tryz.st97 Tryz.ld105 Tryz.st105 Tryz.ld117 Tryz.st117 Tryz.ld122 Tryz.st122 Tryz.ld123 Tryz.st123 Tryz.ld133 Tryz.st133 Tryz.ld155 Tryz.st155 Tryz.ld163 Tryz.st163 Tryz.ld190 Tryz.st190 Tryz.ld197 Tryz.st197 Tryz.ld201 Tryz.st201 Tryz.ld202 Tryz.st202 Tryz.ld209 Tryz.st209 Tryz.ld216 Tryz.st216 Tryz.ld230 Tryz.st230 Tryz.ld238 Tryz.st238 Tryz.ld242 Tryz.st242 Tryz.ld251 Tryz.st251 Tryz.ld260 Tryz.st260 Tryz.ld286 Tryz.st286 Tryz.ld292 Tryz.st292 Tryz.ld298 Tryz.st298 Tryz.ld309 Tryz.st309 Tryz.ld35 Tryz.st35 Tryz.ld48 Tryz.st48 Tryz.ld47 Tryz.st47 Tryz.ld79 Tryz.st79 Tryz.ld177 Tryz.st177 Tryz.ld180 Tryz.st180 Tryz.ld231 Tryz.st231 Tryz.ld232 Tryz.st232 Tryz.ld26 Tryz.st26 Tryz.ld38 Tryz.st38 Tryz.ld40 Tryz.st40 Tryz.ld43 Tryz.st43 Tryz.ld50 Tryz.st50 Tryz.ld52 Tryz.st52 Tryz.ld54 Tryz.st54 Tryz.ld81 Tryz.st81 Tryz.ld112 Tryz.st112 Tryz.ld120 Tryz.st120 Tryz.ld176 Tryz.st176 Tryz.ld179 Tryz.st179 Tryz.ld182 Tryz.st182 Tryz.ld184 Tryz.st184 Tryz.ld234 Tryz.st234 Tryz.ld236 Tryz.st236 Tryz.ld240 Tryz.st240 Tryz.ld246 Tryz.st246 Tryz.ld249 Tryz.st249 Tryz.al35 Tryz.al48 Tryz.al47 Tryz.al79 Tryz.al177 Tryz.al180 Tryz.al231 Tryz.al232 Tryz.al26 Tryz.al38 Tryz.al40 Tryz.al43 Tryz.al50 Tryz.al52 Tryz.al54 Tryz.al81 Tryz.al112 Tryz.al120 Tryz.al176 Tryz.al179 Tryz.al182 Tryz.al184 Tryz.al234 Tryz.al236 Tryz.al240 Tryz.al246 Tryz.al249
attribute [local go_sem] Player.length_enc Player.ok_enc Player.all_get Player.all_set Player.hand_get Player.hand_set Player.aside_get Player.aside_set Message.length_enc Message.ok_enc Message.all_get Message.all_set Message.kind_get Message.kind_set Message.from__get Message.from__set Message.to__get Message.to__set Message.sender_get Message.sender_set Message.receiver_get Message.receiver_set Message.seq_get Message.seq_set Message.token_get Message.token_set Message.amount_get Message.amount_set Message.size_get Message.size_set Message.payload_get Message.payload_set Tx.length_enc Tx.ok_enc Tx.all_get Tx.all_set Tx.kind_get Tx.kind_set Tx.chain_get Tx.chain_set Tx.from__get Tx.from__set Tx.nonce_get Tx.nonce_set Tx.fee_get Tx.fee_set Tx.to__get Tx.to__set Tx.dest_get Tx.dest_set Tx.token_get Tx.token_set Tx.amount_get Tx.amount_set Tx.size_get Tx.size_set Tx.payload_get Tx.payload_set Tx.msg_get Tx.msg_set Tx.msg_kind_get Tx.msg_kind_set Tx.msg_from__get Tx.msg_from__set Tx.msg_to__get Tx.msg_to__set Tx.msg_sender_get Tx.msg_sender_set Tx.msg_receiver_get Tx.msg_receiver_set Tx.msg_seq_get Tx.msg_seq_set Tx.msg_token_get Tx.msg_token_set Tx.msg_amount_get Tx.msg_amount_set Tx.msg_size_get Tx.msg_size_set Tx.msg_payload_get Tx.msg_payload_set GOp.length_enc GOp.ok_enc GOp.all_get GOp.all_set GOp.kind_get GOp.kind_set GOp.tx_get GOp.tx_set GOp.txs_get GOp.txs_set GOp.gas_get GOp.gas_set GOp.acct_get GOp.acct_set GOp.token_get GOp.token_set GOp.chain_get GOp.chain_set GOp.seq_get GOp.seq_set GOp.tx_kind_get GOp.tx_kind_set GOp.tx_chain_get GOp.tx_chain_set GOp.tx_from__get GOp.tx_from__set GOp.tx_nonce_get GOp.tx_nonce_set GOp.tx_fee_get GOp.tx_fee_set GOp.tx_to__get GOp.tx_to__set GOp.tx_dest_get GOp.tx_dest_set GOp.tx_token_get GOp.tx_token_set GOp.tx_amount_get GOp.tx_amount_set GOp.tx_size_get GOp.tx_size_set GOp.tx_payload_get GOp.tx_payload_set GOp.tx_msg_get GOp.tx_msg_set GOp.tx_msg_kind_get GOp.tx_msg_kind_set GOp.tx_msg_from__get GOp.tx_msg_from__set GOp.tx_msg_to__get GOp.tx_msg_to__set GOp.tx_msg_sender_get GOp.tx_msg_sender_set GOp.tx_msg_receiver_get GOp.tx_msg_receiver_set GOp.tx_msg_seq_get GOp.tx_msg_seq_set GOp.tx_msg_token_get GOp.tx_msg_token_set GOp.tx_msg_amount_get GOp.tx_msg_amount_set GOp.tx_msg_size_get GOp.tx_msg_size_set GOp.tx_msg_payload_get GOp.tx_msg_payload_set Summary.length_enc Summary.ok_enc Summary.all_get Summary.all_set Summary.height_get Summary.height_set Summary.txs_get Summary.txs_set Summary.gas_get Summary.gas_set Summary.fees_get Summary.fees_set Summary.sent_get Summary.sent_set Summary.took_get Summary.took_set Summary.minted_get Summary.minted_set Summary.burned_get Summary.burned_set Summary.root_get Summary.root_set Detail.length_enc Detail.ok_enc Detail.all_get Detail.all_set Detail.code_get Detail.code_set Detail.have__get Detail.have__set Detail.need_get Detail.need_set Slot.length_enc Slot.ok_enc Slot.all_get Slot.all_set Slot.nonce_get Slot.nonce_set Slot.balances_get Slot.balances_set Tree.length_enc Tree.ok_enc Tree.all_get Tree.all_set Tree.leaves_get Tree.leaves_set Mark.length_enc Mark.ok_enc Mark.all_get Mark.all_set Mark.from__get Mark.from__set Mark.seq_get Mark.seq_set Receipt.length_enc Receipt.ok_enc Receipt.all_get Receipt.all_set Receipt.code_get Receipt.code_set Receipt.hash_get Receipt.hash_set Receipt.index_get Receipt.index_set Receipt.gas_get Receipt.gas_set Receipt.fee_get Receipt.fee_set Receipt.hasSent_get Receipt.hasSent_set Receipt.sent_get Receipt.sent_set Receipt.hasTook_get Receipt.hasTook_set Receipt.took_get Receipt.took_set Receipt.sent_kind_get Receipt.sent_kind_set Receipt.sent_from__get Receipt.sent_from__set Receipt.sent_to__get Receipt.sent_to__set Receipt.sent_sender_get Receipt.sent_sender_set Receipt.sent_receiver_get Receipt.sent_receiver_set Receipt.sent_seq_get Receipt.sent_seq_set Receipt.sent_token_get Receipt.sent_token_set Receipt.sent_amount_get Receipt.sent_amount_set Receipt.sent_size_get Receipt.sent_size_set Receipt.sent_payload_get Receipt.sent_payload_set Receipt.took_kind_get Receipt.took_kind_set Receipt.took_from__get Receipt.took_from__set Receipt.took_to__get Receipt.took_to__set Receipt.took_sender_get Receipt.took_sender_set Receipt.took_receiver_get Receipt.took_receiver_set Receipt.took_seq_get Receipt.took_seq_set Receipt.took_token_get Receipt.took_token_set Receipt.took_amount_get Receipt.took_amount_set Receipt.took_size_get Receipt.took_size_set Receipt.took_payload_get Receipt.took_payload_set Store.length_enc Store.ok_enc Store.all_get Store.all_set Store.now_get Store.now_set Store.saved_get Store.saved_set GState.length_enc GState.ok_enc GState.all_get GState.all_set GState.kv_get GState.kv_set GState.tree_get GState.tree_set GState.stale_get GState.stale_set GState.touched_get GState.touched_set GState.kv_now_get GState.kv_now_set GState.kv_saved_get GState.kv_saved_set GState.tree_leaves_get GState.tree_leaves_set History.length_enc History.ok_enc History.all_get History.all_set History.ring_get History.ring_set History.closed_get History.closed_set Ledger.length_enc Ledger.ok_enc Ledger.all_get Ledger.all_set Ledger.chain_get Ledger.chain_set Ledger.st_get Ledger.st_set Ledger.height_get Ledger.height_set Ledger.open__get Ledger.open__set Ledger.gasLimit_get Ledger.gasLimit_set Ledger.past_get Ledger.past_set Ledger.begun_get Ledger.begun_set Ledger.sent_get Ledger.sent_set Ledger.took_get Ledger.took_set Ledger.receipts_get Ledger.receipts_set Ledger.st_kv_get Ledger.st_kv_set Ledger.st_tree_get Ledger.st_tree_set Ledger.st_stale_get Ledger.st_stale_set Ledger.st_touched_get Ledger.st_touched_set Ledger.st_kv_now_get Ledger.st_kv_now_set Ledger.st_kv_saved_get Ledger.st_kv_saved_set Ledger.st_tree_leaves_get Ledger.st_tree_leaves_set Ledger.past_ring_get Ledger.past_ring_set Ledger.past_closed_get Ledger.past_closed_set Ledger.begun_kv_get Ledger.begun_kv_set Ledger.begun_tree_get Ledger.begun_tree_set Ledger.begun_stale_get Ledger.begun_stale_set Ledger.begun_touched_get Ledger.begun_touched_set Ledger.begun_kv_now_get Ledger.begun_kv_now_set Ledger.begun_kv_saved_get Ledger.begun_kv_saved_set Ledger.begun_tree_leaves_get Ledger.begun_tree_leaves_set Purse.length_enc Purse.ok_enc Purse.all_get Purse.all_set Purse.st_get Purse.st_set Purse.n_get Purse.n_set Purse.account_get Purse.account_set Purse.token_get Purse.token_set Purse.amount_get Purse.amount_set Plan.length_enc Plan.ok_enc Plan.all_get Plan.all_set Plan.purse_get Plan.purse_set Plan.nonce_get Plan.nonce_set Plan.gasUsed_get Plan.gasUsed_set Plan.fees_get Plan.fees_set Plan.hasSupply_get Plan.hasSupply_set Plan.token_get Plan.token_set Plan.supply_get Plan.supply_set Plan.flowAt_get Plan.flowAt_set Plan.flow_get Plan.flow_set Plan.receipt_get Plan.receipt_set Plan.purse_st_get Plan.purse_st_set Plan.purse_n_get Plan.purse_n_set Plan.purse_account_get Plan.purse_account_set Plan.purse_token_get Plan.purse_token_set Plan.purse_amount_get Plan.purse_amount_set Plan.receipt_code_get Plan.receipt_code_set Plan.receipt_hash_get Plan.receipt_hash_set Plan.receipt_index_get Plan.receipt_index_set Plan.receipt_gas_get Plan.receipt_gas_set Plan.receipt_fee_get Plan.receipt_fee_set Plan.receipt_hasSent_get Plan.receipt_hasSent_set Plan.receipt_sent_get Plan.receipt_sent_set Plan.receipt_hasTook_get Plan.receipt_hasTook_set Plan.receipt_took_get Plan.receipt_took_set Plan.receipt_sent_kind_get Plan.receipt_sent_kind_set Plan.receipt_sent_from__get Plan.receipt_sent_from__set Plan.receipt_sent_to__get Plan.receipt_sent_to__set Plan.receipt_sent_sender_get Plan.receipt_sent_sender_set Plan.receipt_sent_receiver_get Plan.receipt_sent_receiver_set Plan.receipt_sent_seq_get Plan.receipt_sent_seq_set Plan.receipt_sent_token_get Plan.receipt_sent_token_set Plan.receipt_sent_amount_get Plan.receipt_sent_amount_set Plan.receipt_sent_size_get Plan.receipt_sent_size_set Plan.receipt_sent_payload_get Plan.receipt_sent_payload_set Plan.receipt_took_kind_get Plan.receipt_took_kind_set Plan.receipt_took_from__get Plan.receipt_took_from__set Plan.receipt_took_to__get Plan.receipt_took_to__set Plan.receipt_took_sender_get Plan.receipt_took_sender_set Plan.receipt_took_receiver_get Plan.receipt_took_receiver_set Plan.receipt_took_seq_get Plan.receipt_took_seq_set Plan.receipt_took_token_get Plan.receipt_took_token_set Plan.receipt_took_amount_get Plan.receipt_took_amount_set Plan.receipt_took_size_get Plan.receipt_took_size_set Plan.receipt_took_payload_get Plan.receipt_took_payload_set Move.length_enc Move.ok_enc Move.all_get Move.all_set Move.account_get Move.account_set Move.token_get Move.token_set Move.down_get Move.down_set Move.amount_get Move.amount_set Books.length_enc Books.ok_enc Books.all_get Books.all_set Books.sums_get Books.sums_set Books.stored_get Books.stored_set Books.marks_get Books.marks_set Pair.length_enc Pair.ok_enc Pair.all_get Pair.all_set Pair.key_get Pair.key_set Pair.value_get Pair.value_set
attribute [local go_sem] size_put size_ext blk_put free_put blk_alloc free_alloc blk_drew free_drew blk_ext free_ext lookOr_some putOr_some segAt_some cellAt_some storeIn_some put_put put_alloc_new length_arr ok_arr_u8 ok_arr_u32 ok_arr_u64 ok_arr_i64 ok_arr_sl cellsV_agg cellsV_int cellsV_bool cellsV_string cellsV_pointer cellsV_slice cellsV_sl ok_int ok_bool ok_string ok_pointer ok_slice ok_sl toList_arr seg_arr set_arr nth_splice nth_splice0 seg_splice seg_splice0 splice_splice splice_splice0 length_splice_if
attribute [local go_sem ↓] execOp_box
attribute [local go_sem] box_run nth_arr_u8 put_arr_u8 blk_drewN free_drewN put_drewN blk_raw free_raw
set_option maxRecDepth 100000 in
theorem field112 (w : World) (x : Mark) : (Instr.field 112 (.agg x.enc.toArray) 0).run Tryz.prog w = .ok (.int .u8 (w8 x.from_)) w := by kernel_rfl
theorem opt_some (u : UInt64) : optV (some u) = .tuple #[.int .u64 (w64 u), .bool true] := rfl
attribute [local go_sem] field112
theorem max_C {n : Nat} {L : PLg} (h : LI n L) (hn : n ≤ 10000000) (i : UInt64) (h1 : 1 ≤ i.toNat) (h2 : i.toNat ≤ 14) : (ldF L.st.now (keyC i)).toNat ≤ 9223372036854775807 := by
  have hS := h.now
  have hgl : L.gasLimit.toNat ≤ 10000 := by
    cases ho : L.open_ with
    | true => exact (h.op ho).2.2.2.1
    | false => rw [(h.cl ho).2.2.1]; decide
  have e1 := hS.gas
  have e2 := hS.fee
  have e3 := hS.c3n
  have e4 := hS.txs
  have e6 := hS.mkn
  have em := hS.mnt
  have eb := hS.brn
  have : i.toNat = 1 ∨ i.toNat = 2 ∨ i.toNat = 3 ∨ i.toNat = 4 ∨ i.toNat = 5 ∨ i.toNat = 6 ∨ i.toNat = 7 ∨ i.toNat = 8 ∨ i.toNat = 9 ∨ i.toNat = 10 ∨ i.toNat = 11 ∨ i.toNat = 12 ∨ i.toNat = 13 ∨ i.toNat = 14 := by omega
  rcases this with e | e | e | e | e | e | e | e | e | e | e | e | e | e
  · rw [show i = 1 from UInt64.toNat_inj.1 e]; omega
  · rw [show i = 2 from UInt64.toNat_inj.1 e]; omega
  · rw [show i = 3 from UInt64.toNat_inj.1 e]; omega
  · rw [show i = 4 from UInt64.toNat_inj.1 e]; omega
  · rw [show i = 5 from UInt64.toNat_inj.1 e]; omega
  · rw [show i = 6 from UInt64.toNat_inj.1 e]; omega
  · rw [show i = fU 7 0 from UInt64.toNat_inj.1 (e.trans rfl)]; exact em 0 (by decide)
  · rw [show i = fU 7 1 from UInt64.toNat_inj.1 (e.trans rfl)]; exact em 1 (by decide)
  · rw [show i = fU 7 2 from UInt64.toNat_inj.1 (e.trans rfl)]; exact em 2 (by decide)
  · rw [show i = fU 7 3 from UInt64.toNat_inj.1 (e.trans rfl)]; exact em 3 (by decide)
  · rw [show i = fU 11 0 from UInt64.toNat_inj.1 (e.trans rfl)]; exact eb 0 (by decide)
  · rw [show i = fU 11 1 from UInt64.toNat_inj.1 (e.trans rfl)]; exact eb 1 (by decide)
  · rw [show i = fU 11 2 from UInt64.toNat_inj.1 (e.trans rfl)]; exact eb 2 (by decide)
  · rw [show i = fU 11 3 from UInt64.toNat_inj.1 (e.trans rfl)]; exact eb 3 (by decide)
set_option maxRecDepth 20000 in
set_option maxHeartbeats 2000000 in
theorem auditRow_ok (O : Own) (W V : World) (bl bb n i : Nat) (L : PLg) (B : Books) (p : Pair) (hL : LedA O W bl L) (h : BxI W [(bb, B.enc)] V) (hLI : LI n L) (hn : n ≤ 1000000) (hMv : MkV L.st.now) (hI : BkI L.st.now i B) (hp : L.st.now[i]? = some p) : Calls Tryz.prog 155 #[.pointer (some ⟨bl, 0, none⟩), .agg p.enc.toArray, .pointer (some ⟨bb, 0, none⟩)] V fun e V' => e = .returned (.bool true) ∧ ∃ B', BkI L.st.now (i + 1) B' ∧ BxI W [(bb, B'.enc)] V' := by
  obtain ⟨Q, hQ⟩ : ∃ Q : Ending → World → Prop, Q = fun e V' => e = .returned (.bool true) ∧ ∃ B', BkI L.st.now (i + 1) B' ∧ BxI W [(bb, B'.enc)] V' := ⟨_, rfl⟩
  rw [← hQ]
  have HQ := hid_of hQ
  have hS := hLI.now
  have hmem := List.mem_of_getElem? hp
  obtain ⟨hko, hvn⟩ := hS.wf.ok p hmem
  have hlv : ldF L.st.now p.key = p.value := ldF_of_mem hS.wf.nd p hmem
  have h1 := h.box p.enc 249
  obtain ⟨V1, hV1⟩ : ∃ V1 : World, V1 = V.alloc (.cells p.enc.toArray 249) := ⟨_, rfl⟩
  obtain ⟨b4, hb4⟩ : ∃ b4, b4 = V.heap.size := ⟨_, rfl⟩
  have hne : bb ≠ b4 := by
    have := blk_lt (h.at (b := bb) (C := B.enc) (by simp)).1
    omega
  rw [← hV1, ← hb4] at h1
  have k4 := (h1.at (b := b4) (C := p.enc) (by simp)).1
  have kb := (h1.at (b := bb) (C := B.enc) (by simp)).1
  have fb := (h1.at (b := bb) (C := B.enc) (by simp)).2
  have hv0 : (w64 p.value == 0) = false := by
    have : ¬ w64 p.value = 0 := fun e => hvn (w64_inj (b := 0) e)
    simp [this]
  have hro := rowOf_any V1 p.key
  have hta := tableOf_any V1 p.key
  obtain ⟨r, hr⟩ : ∃ r, r = rowU p.key := ⟨_, rfl⟩
  obtain ⟨tb, htb⟩ : ∃ tb, tb = tblU p.key := ⟨_, rfl⟩
  rw [← hr] at hro
  rw [← htb] at hta
  have HRT : Hid (r = rowU p.key ∧ tb = tblU p.key) := ⟨hr, htb⟩
  have HV1 := hid_of hV1
  have HB4 := hid_of hb4
  have HNE := hid_of hne
  have H1 := hid_of h1
  have HL := hid_of hL
  have HBI := hid_of hI
  have HLI := hid_of hLI
  have HLV := hid_of hlv
  have HPP := hid_of hp
  have HMV := hid_of hMv
  have HMM := hid_of hmem
  have HFIN : Hid (∀ B' V', BkI L.st.now (i + 1) B' → BxI W [(bb, B'.enc)] V' → Q (.returned (.bool true)) V') := fun B' V' q1 q2 => by rw [HQ.out]; exact ⟨rfl, B', q1, q2⟩
  clear hQ hV1 hb4 hr htb hL h h1 hLI hI hp hMv hS hmem hlv HQ
  go_enter Tryz.func155, Tryz.ntmps155
  go_upto_region 1 with fail
  rw [← HV1.out, ← HB4.out]
  clear HV1 HB4
  go_wp2_with fail
  refine hro.mono ?_
  clear hro
  rintro e V2 ⟨rfl, hv2⟩
  obtain rfl := hv2.symm
  dsimp only
  go_wp2_with fail
  refine hta.mono ?_
  clear hta
  rintro e V3 ⟨rfl, hv3⟩
  obtain rfl := hv3.symm
  dsimp only
  rcases hko with ⟨ka, hka, hk⟩ | ⟨ka, kt, hka, hkt, hk⟩ | ⟨kt, hkt, hk⟩ | ⟨kf, ks, hf1, hf2, hks, hk⟩ | ⟨kc, hc1, hc2, hk⟩
  · have tw : w64 tb = 1 := by unfold w64; rw [HRT.out.2, tblU_nat, hk, tbl_N]; rfl
    have rn : r.toNat = ka.toNat := by
      rw [HRT.out.1, rowU_nat, hk, keyN_nat]
      have := ka.toNat_lt
      omega
    have e1 : w64 r < 64 := by unfold w64; rw [rn]; omega
    have e2 : w64 p.value ≤ 9223372036854775807 := by
      have q1 := HLI.out.now.non ka
      rw [← hk, HLV.out] at q1
      unfold w64
      omega
    have HP := hid_of (HFIN.out B V1 (HBI.out.skip HLI.out.now.wf.nd HPP.out (fun a t e => by rw [hk] at e; exact ne_of_false (kNB _ _ _) e) (fun t e => by rw [hk] at e; exact ne_of_false (kNS _ _) e) (by rw [hk, tbl_N]; omega)) (H1.out.sub (fun q hq => List.mem_cons_of_mem _ hq)))
    clear hk rn HFIN
    go_wp2_with fail
    try (first | go_ret | go_ret2 | go_ret3 | go_end0)
    exact HP.out
  · have tw : w64 tb = 2 := by unfold w64; rw [HRT.out.2, tblU_nat, hk, tbl_B]; rfl
    have rn : r.toNat = ka.toNat * 256 + kt.toNat := by
      rw [HRT.out.1, rowU_nat, hk, keyB_nat]
      have := ka.toNat_lt
      have := kt.toNat_lt
      omega
    have e1 : w64 r / 256 = (ka.toNat : Int) := by unfold w64; rw [rn]; have := kt.toNat_lt; omega
    obtain ⟨t0, ht0⟩ : ∃ t0 : Nat, t0 = kt.toNat := ⟨_, rfl⟩
    have e2 : bits .and .u64 (w64 r) 255 = (t0 : Int) := by rw [u64_mask r 8 (by omega) 255 rfl, rn, ht0]; have := kt.toNat_lt; omega
    have e3 : ¬ (64 : Int) ≤ (ka.toNat : Int) := by omega
    have e4 : ¬ (4 : Int) ≤ (t0 : Int) := by omega
    have e5 : (t0 : Int) < 4 := by omega
    have e6 : (0 : Int) ≤ (t0 : Int) := by omega
    have hkt' : t0 < 4 := by omega
    obtain ⟨b5, b6⟩ := HBI.out.bal HLI.out.now.wf.nd HPP.out hk hkt (by rw [sumR_tot HLI.out.now.wf.nd (fun q hq => (HLI.out.now.wf.ok q hq).1), HLI.out.now.sum kt hkt]; exact HLI.out.now.sup kt hkt)
    obtain ⟨su, hsu⟩ : ∃ su, su = B.sums[kt.toNat] := ⟨_, rfl⟩
    have nsu : nth B.enc t0 = some (.int .u64 (w64 su)) := by
      have q := Books.sums_at B t0 hkt'
      rw [Nat.zero_add] at q
      rw [q, hsu]
      congr 4
    obtain ⟨B', hB'⟩ : ∃ B', B' = ({ B with sums := B.sums.set kt.toNat (B.sums[kt.toNat] + p.value) hkt } : Books) := ⟨_, rfl⟩
    have psu : splice B.enc t0 [.int .u64 (w64 (su + p.value))] = B'.enc := by
      have q := Books.sums_put B t0 (su + p.value) hkt'
      rw [Nat.zero_add] at q
      rw [q, hB', hsu]
      congr 2
      subst ht0
      rfl
    rw [← hB'] at b6
    have hao : addO su p.value = some (su + p.value) := by
      rw [← hsu] at b5
      unfold addO
      split <;> simp_all
      all_goals omega
    have had := add_any V1.drew su p.value
    rw [hao, opt_some] at had
    have lbe : B.enc.length = 9 := Books.length_enc B
    have h5 := H1.out.ext (extends_drewN (ext_Ext (Ext.refl V1)) 1)
    have k45 := (h5.at (b := b4) (C := p.enc) (by simp)).1
    have kb5 := (h5.at (b := bb) (C := B.enc) (by simp)).1
    have fb5 := (h5.at (b := bb) (C := B.enc) (by simp)).2
    have HP := hid_of (HFIN.out B' (put V1.drew bb B'.enc) b6 ((h5.sub (bs' := [(bb, B.enc)]) (fun q hq => by rw [List.mem_singleton] at hq; rw [hq]; simp)).put (fun q hq => by cases hq)))
    generalize B.enc = BE at k45 kb5 nsu psu lbe kb
    clear hk rn HFIN b5 b6 hsu hB' hao h5 ht0 hkt HBI
    go_upto_region 11 with fail
    repeat go_step
    refine wp_region_F 13 (fun W' => W' = V1.drew) (by kernel_rfl) rfl (fun hHeld => ?_)
    refine wpAnyF_take (i := 0) (oi := ⟨_, _, _, _, _, _⟩) (v := ?_) rfl (by kernel_rfl) (by kernel_rfl) (by kernel_rfl) (by kernel_rfl) (by kernel_rfl) (fun _ _ _ h => h) (Or.inl ⟨by rfl, ?_⟩) (by assumption) ?_
    rotate_left 1
    · intro W' hSw
      subst hSw
      go_simp
      try with_reducible rfl
    try simp only [Act.put, List.setIfInBounds_toArray, List.set_cons_zero, List.set_cons_succ]
    refine wpAnyF_take (i := 1) (oi := ⟨_, _, _, _, _, _⟩) (v := ?_) rfl (by kernel_rfl) (by kernel_rfl) (by kernel_rfl) (by kernel_rfl) (by kernel_rfl) (fun _ _ _ h => h) (Or.inl ⟨by rfl, ?_⟩) (by assumption) ?_
    rotate_left 1
    · intro W' hSw
      subst hSw
      go_simp
      try with_reducible rfl
    try simp only [Act.put, List.setIfInBounds_toArray, List.set_cons_zero, List.set_cons_succ]
    refine wpAnyF_take (i := 2) (oi := ⟨_, _, _, _, _, _⟩) (v := ?_) rfl (by kernel_rfl) (by kernel_rfl) (by kernel_rfl) (by kernel_rfl) (by kernel_rfl) (fun _ _ _ h => h) (Or.inl ⟨by rfl, ?_⟩) (by assumption) ?_
    rotate_left 1
    · intro W' hSw
      subst hSw
      go_simp
      try with_reducible rfl
    try simp only [Act.put, List.setIfInBounds_toArray, List.set_cons_zero, List.set_cons_succ]
    refine wpAnyF_take (i := 3) (oi := ⟨_, _, _, _, _, _⟩) (v := ?_) rfl (by kernel_rfl) (by kernel_rfl) (by kernel_rfl) (by kernel_rfl) (by kernel_rfl) (fun _ _ _ h => h) (Or.inl ⟨by rfl, ?_⟩) (by assumption) ?_
    rotate_left 1
    · intro W' hSw
      subst hSw
      go_simp
      try with_reducible rfl
    try simp only [Act.put, List.setIfInBounds_toArray, List.set_cons_zero, List.set_cons_succ]
    refine wpAnyF_take (i := 4) (oi := ⟨_, _, _, _, _, _⟩) (v := ?_) rfl (by kernel_rfl) (by kernel_rfl) (by kernel_rfl) (by kernel_rfl) (by kernel_rfl) (fun _ _ _ h => h) (Or.inl ⟨by rfl, ?_⟩) (by assumption) ?_
    rotate_left 1
    · intro W' hSw
      subst hSw
      go_simp
      try with_reducible rfl
    try simp only [Act.put, List.setIfInBounds_toArray, List.set_cons_zero, List.set_cons_succ]
    refine wpAnyF_take (i := 5) (oi := ⟨_, _, _, _, _, _⟩) (v := ?_) rfl (by kernel_rfl) (by kernel_rfl) (by kernel_rfl) (by kernel_rfl) (by kernel_rfl) (fun _ _ _ h => h) (Or.inl ⟨by rfl, ?_⟩) (by assumption) ?_
    rotate_left 1
    · intro W' hSw
      subst hSw
      go_simp
      try with_reducible rfl
    try simp only [Act.put, List.setIfInBounds_toArray, List.set_cons_zero, List.set_cons_succ]
    refine wpAnyF_take (i := 6) (oi := ⟨_, _, _, _, _, _⟩) (v := ?_) rfl (by kernel_rfl) (by kernel_rfl) (by kernel_rfl) (by kernel_rfl) (by kernel_rfl) (fun _ _ _ h => h) (Or.inl ⟨by rfl, ?_⟩) (by assumption) ?_
    rotate_left 1
    · intro W' hSw
      subst hSw
      go_simp
      try with_reducible rfl
    try simp only [Act.put, List.setIfInBounds_toArray, List.set_cons_zero, List.set_cons_succ]
    refine wpAnyF_take (i := 7) (oi := ⟨_, _, _, _, _, _⟩) (v := ?_) rfl (by kernel_rfl) (by kernel_rfl) (by kernel_rfl) (by kernel_rfl) (by kernel_rfl) (fun _ _ _ h => h) (Or.inl ⟨by rfl, ?_⟩) (by assumption) ?_
    rotate_left 1
    · intro W' hSw
      subst hSw
      go_simp
      try with_reducible rfl
    try simp only [Act.put, List.setIfInBounds_toArray, List.set_cons_zero, List.set_cons_succ]
    refine wpAnyF_one (o := ⟨_, _, _, _, _, _⟩) (i := 8) (by kernel_rfl) rfl rfl (fun K' hK => ?_)
    go_simp
    refine had.mono ?_
    clear had
    rintro e V6 ⟨rfl, hv6⟩
    obtain rfl := hv6.symm
    dsimp only
    refine hK.out _ _ rfl (fun hHeld => ?_)
    clear hK K'
    try simp only [Act.put, List.setIfInBounds_toArray, List.set_cons_zero, List.set_cons_succ]
    refine wpAnyF_take (i := 9) (oi := ⟨_, _, _, _, _, _⟩) (v := ?_) rfl (by kernel_rfl) (by kernel_rfl) (by kernel_rfl) (by kernel_rfl) (by kernel_rfl) (fun _ _ _ h => h) (Or.inl ⟨by rfl, ?_⟩) (by assumption) ?_
    rotate_left 1
    · intro W' hSw
      subst hSw
      go_simp
      try with_reducible rfl
    try simp only [Act.put, List.setIfInBounds_toArray, List.set_cons_zero, List.set_cons_succ]
    refine wpAnyF_take (i := 10) (oi := ⟨_, _, _, _, _, _⟩) (v := ?_) rfl (by kernel_rfl) (by kernel_rfl) (by kernel_rfl) (by kernel_rfl) (by kernel_rfl) (fun _ _ _ h => h) (Or.inl ⟨by rfl, ?_⟩) (by assumption) ?_
    rotate_left 1
    · intro W' hSw
      subst hSw
      go_simp
      try with_reducible rfl
    try simp only [Act.put, List.setIfInBounds_toArray, List.set_cons_zero, List.set_cons_succ]
    refine wpAnyF_take (i := 11) (oi := ⟨_, _, _, _, _, _⟩) (v := ?_) rfl (by kernel_rfl) (by kernel_rfl) (by kernel_rfl) (by kernel_rfl) (by kernel_rfl) (fun _ _ _ h => h) (Or.inl ⟨by rfl, ?_⟩) (by assumption) ?_
    rotate_left 1
    · intro W' hSw
      subst hSw
      go_simp
      try with_reducible rfl
    try simp only [Act.put, List.setIfInBounds_toArray, List.set_cons_zero, List.set_cons_succ]
    refine wpAnyF_take (i := 12) (oi := ⟨_, _, _, _, _, _⟩) (v := ?_) rfl (by kernel_rfl) (by kernel_rfl) (by kernel_rfl) (by kernel_rfl) (by kernel_rfl) (fun _ _ _ h => h) (Or.inl ⟨by rfl, ?_⟩) (by assumption) ?_
    rotate_left 1
    · intro W' hSw
      subst hSw
      go_simp
      try with_reducible rfl
    try simp only [Act.put, List.setIfInBounds_toArray, List.set_cons_zero, List.set_cons_succ]
    refine wpAnyF_last (o := ⟨_, _, _, _, _, _⟩) (by kernel_rfl) rfl (fun K' hK => ?_)
    go_simp
    refine hK.out _ _ ?_
    clear hK K'
    try simp only [Act.put, List.setIfInBounds_toArray, List.set_cons_zero, List.set_cons_succ]
    refine wpAnyF_done (by kernel_rfl) ?_ _
    clear hHeld
    go_wp2_with fail
    try (first | go_ret | go_ret2 | go_ret3 | go_end0)
    exact HP.out
  · have tw : w64 tb = 3 := by unfold w64; rw [HRT.out.2, tblU_nat, hk, tbl_S]; rfl
    have rn : r.toNat = kt.toNat := by
      rw [HRT.out.1, rowU_nat, hk, keyS_nat]
      have := kt.toNat_lt
      omega
    obtain ⟨t0, ht0⟩ : ∃ t0 : Nat, t0 = kt.toNat := ⟨_, rfl⟩
    have e1 : w64 r = (t0 : Int) := by unfold w64; rw [rn, ht0]
    have e4 : ¬ (4 : Int) ≤ (t0 : Int) := by omega
    have e5 : (t0 : Int) < 4 := by omega
    have e6 : (0 : Int) ≤ (t0 : Int) := by omega
    have hkt' : t0 < 4 := by omega
    have e2 : w64 p.value ≤ 9223372036854775807 := by
      have q1 := HLI.out.now.sup kt hkt
      rw [← hk, HLV.out] at q1
      unfold w64
      omega
    have b6 := HBI.out.sup HLI.out.now.wf.nd HPP.out hk hkt
    obtain ⟨B', hB'⟩ : ∃ B', B' = ({ B with stored := B.stored.set kt.toNat p.value hkt } : Books) := ⟨_, rfl⟩
    have psu : splice B.enc (4 + t0) [.int .u64 (w64 p.value)] = B'.enc := by
      rw [Books.stored_put B t0 p.value hkt', hB']
      congr 2
      subst ht0
      rfl
    rw [← hB'] at b6
    have lbe : B.enc.length = 9 := Books.length_enc B
    have k9 : 4 + t0 + 1 ≤ 9 := by omega
    have h5 := H1.out.ext (extends_drewN (ext_Ext (Ext.refl V1)) 1)
    have k45 := (h5.at (b := b4) (C := p.enc) (by simp)).1
    have kb5 := (h5.at (b := bb) (C := B.enc) (by simp)).1
    have fb5 := (h5.at (b := bb) (C := B.enc) (by simp)).2
    have hne2 : ¬ b4 = bb := fun e => HNE.out e.symm
    have HP := hid_of (HFIN.out B' (put V1.drew bb B'.enc) b6 ((h5.sub (bs' := [(bb, B.enc)]) (fun q hq => by rw [List.mem_singleton] at hq; rw [hq]; simp)).put (fun q hq => by cases hq)))
    generalize B.enc = BE at k45 kb5 psu lbe kb
    clear hk rn HFIN b6 hB' h5 ht0 hkt HBI
    go_upto_region 17 with fail
    repeat go_step
    refine wp_region_F 7 (fun W' => W' = V1.drew) (by kernel_rfl) rfl (fun hHeld => ?_)
    refine wpAnyF_take (i := 0) (oi := ⟨_, _, _, _, _, _⟩) (v := ?_) rfl (by kernel_rfl) (by kernel_rfl) (by kernel_rfl) (by kernel_rfl) (by kernel_rfl) (fun _ _ _ h => h) (Or.inl ⟨by rfl, ?_⟩) (by assumption) ?_
    rotate_left 1
    · intro W' hSw
      subst hSw
      go_simp
      try with_reducible rfl
    try simp only [Act.put, List.setIfInBounds_toArray, List.set_cons_zero, List.set_cons_succ]
    refine wpAnyF_take (i := 1) (oi := ⟨_, _, _, _, _, _⟩) (v := ?_) rfl (by kernel_rfl) (by kernel_rfl) (by kernel_rfl) (by kernel_rfl) (by kernel_rfl) (fun _ _ _ h => h) (Or.inl ⟨by rfl, ?_⟩) (by assumption) ?_
    rotate_left 1
    · intro W' hSw
      subst hSw
      go_simp
      try with_reducible rfl
    try simp only [Act.put, List.setIfInBounds_toArray, List.set_cons_zero, List.set_cons_succ]
    refine wpAnyF_take (i := 2) (oi := ⟨_, _, _, _, _, _⟩) (v := ?_) rfl (by kernel_rfl) (by kernel_rfl) (by kernel_rfl) (by kernel_rfl) (by kernel_rfl) (fun _ _ _ h => h) (Or.inl ⟨by rfl, ?_⟩) (by assumption) ?_
    rotate_left 1
    · intro W' hSw
      subst hSw
      go_simp
      try with_reducible rfl
    try simp only [Act.put, List.setIfInBounds_toArray, List.set_cons_zero, List.set_cons_succ]
    refine wpAnyF_take (i := 3) (oi := ⟨_, _, _, _, _, _⟩) (v := ?_) rfl (by kernel_rfl) (by kernel_rfl) (by kernel_rfl) (by kernel_rfl) (by kernel_rfl) (fun _ _ _ h => h) (Or.inl ⟨by rfl, ?_⟩) (by assumption) ?_
    rotate_left 1
    · intro W' hSw
      subst hSw
      go_simp
      try with_reducible rfl
    try simp only [Act.put, List.setIfInBounds_toArray, List.set_cons_zero, List.set_cons_succ]
    refine wpAnyF_take (i := 4) (oi := ⟨_, _, _, _, _, _⟩) (v := ?_) rfl (by kernel_rfl) (by kernel_rfl) (by kernel_rfl) (by kernel_rfl) (by kernel_rfl) (fun _ _ _ h => h) (Or.inl ⟨by rfl, ?_⟩) (by assumption) ?_
    rotate_left 1
    · intro W' hSw
      subst hSw
      go_simp
      try with_reducible rfl
    try simp only [Act.put, List.setIfInBounds_toArray, List.set_cons_zero, List.set_cons_succ]
    refine wpAnyF_take (i := 5) (oi := ⟨_, _, _, _, _, _⟩) (v := ?_) rfl (by kernel_rfl) (by kernel_rfl) (by kernel_rfl) (by kernel_rfl) (by kernel_rfl) (fun _ _ _ h => h) (Or.inl ⟨by rfl, ?_⟩) (by assumption) ?_
    rotate_left 1
    · intro W' hSw
      subst hSw
      go_simp
      try with_reducible rfl
    try simp only [Act.put, List.setIfInBounds_toArray, List.set_cons_zero, List.set_cons_succ]
    refine wpAnyF_take (i := 6) (oi := ⟨_, _, _, _, _, _⟩) (v := ?_) rfl (by kernel_rfl) (by kernel_rfl) (by kernel_rfl) (by kernel_rfl) (by kernel_rfl) (fun _ _ _ h => h) (Or.inl ⟨by rfl, ?_⟩) (by assumption) ?_
    rotate_left 1
    · intro W' hSw
      subst hSw
      go_simp
      try with_reducible rfl
    try simp only [Act.put, List.setIfInBounds_toArray, List.set_cons_zero, List.set_cons_succ]
    refine wpAnyF_last (o := ⟨_, _, _, _, _, _⟩) (by kernel_rfl) rfl (fun K' hK => ?_)
    go_simp
    refine hK.out _ _ ?_
    clear hK K'
    try simp only [Act.put, List.setIfInBounds_toArray, List.set_cons_zero, List.set_cons_succ]
    refine wpAnyF_done (by kernel_rfl) ?_ _
    clear hHeld
    go_wp2_with fail
    try (first | go_ret | go_ret2 | go_ret3 | go_end0)
    exact HP.out
  · have tw : w64 tb = 4 := by unfold w64; rw [HRT.out.2, tblU_nat, hk, tbl_M]; rfl
    have rn : r.toNat = kf.toNat * 281474976710656 + ks.toNat := by
      rw [HRT.out.1, rowU_nat, hk, keyM_nat _ _ hks]
      have := kf.toNat_lt
      omega
    have hv1 : w64 p.value = 1 := by
      rcases HMV.out kf ks hks with q | q
      · rw [← hk, HLV.out] at q
        rw [q] at hv0
        exact absurd hv0 (by decide)
      · rw [← hk, HLV.out] at q
        rw [q]; rfl
    have b6 := HBI.out.mark HLI.out.now.wf.nd HPP.out hk (by rw [← HLI.out.now.mrk]; have := HLI.out.now.mkn; omega)
    obtain ⟨B', hB'⟩ : ∃ B', B' = ({ B with marks := B.marks + 1 } : Books) := ⟨_, rfl⟩
    rw [← hB'] at b6
    have hinc : IntKind.u64.wrap (w64 B.marks + 1) = w64 (B.marks + 1) := x64_add B.marks 1
    have psu : splice B.enc 8 [.int .u64 (w64 (B.marks + 1))] = B'.enc := by rw [Books.marks_set, hB']
    have nsu : nth B.enc 8 = some (.int .u64 (w64 B.marks)) := Books.marks_get B
    have lbe : B.enc.length = 9 := Books.length_enc B
    have hne2 : ¬ b4 = bb := fun e => HNE.out e.symm
    obtain ⟨V5, hV5⟩ : ∃ V5 : World, V5 = put V1 bb B'.enc := ⟨_, rfl⟩
    have h5 : BxI W [(bb, B'.enc), (b4, p.enc)] V5 := by
      rw [hV5]
      exact (H1.out.sub (bs' := [(bb, B.enc), (b4, p.enc)]) (fun q hq => by simp only [List.mem_cons, List.not_mem_nil, or_false] at hq ⊢; rcases hq with rfl | rfl <;> simp)).put (fun q hq => by rw [List.mem_singleton] at hq; rw [hq]; exact fun e => HNE.out e.symm)
    have k45 := (h5.at (b := b4) (C := p.enc) (by simp)).1
    have hmo := markOf_any V5 r (by rw [rn]; have := hks; have : kf.toNat ≤ 3 := by { unfold chnB w8 at hf1; simp at hf1; omega }; omega)
    have hmk : mkR r = ⟨kf, ks⟩ := by
      unfold mkR
      have := kf.toNat_lt
      have q1 : r.toNat / 281474976710656 = kf.toNat := by rw [rn]; omega
      have q2 : r.toNat % 281474976710656 = ks.toNat := by rw [rn]; omega
      rw [q1, q2]
      simp
    rw [hmk] at hmo
    have HPE : Hid (∀ V', V5.Extends V' → Calls Tryz.prog 140 #[.pointer (some ⟨bl, 0, none⟩), .int .u8 (w8 kf)] V' fun e V'' => e = .returned (.bool true) ∧ V'.Extends V'') := fun V' hx => by
      have q := isPeer_any _ V' bl L (HL.out.ext (h5.1.trans hx)) kf
      have hpb : peerB L kf = true := by
        unfold peerB
        rw [hf1, decide_eq_true hf2]
        rfl
      rw [hpb] at q
      exact q
    have HP : Hid (∀ V', V5.Extends V' → Q (.returned (.bool true)) V') := fun V' hx => HFIN.out B' V' b6 ((h5.ext hx).sub (fun q hq => by rw [List.mem_singleton] at hq; rw [hq]; simp))
    have HV5 := hid_of hV5
    obtain ⟨mm, hmm⟩ : ∃ mm : Mark, mm = ⟨kf, ks⟩ := ⟨_, rfl⟩
    have hmf : mm.from_ = kf := by rw [hmm]
    rw [← hmm] at hmo
    rw [← hmf] at HPE
    generalize B.enc = BE at kb nsu psu lbe
    clear hk rn HFIN b6 hB' h5 HBI hV5 hmk hmm hmf hf1 hf2 hks hv0
    have hv0 : (w64 p.value == 0) = false := by rw [hv1]; rfl
    go_upto_region 21 with fail
    rw [← HV5.out]
    clear HV5
    go_wp2_with fail
    refine hmo.mono ?_
    clear hmo
    rintro e V6 ⟨rfl, hx6⟩
    dsimp only
    have hpe := HPE.out V6 hx6
    go_wp2_with fail
    refine hpe.mono ?_
    clear hpe
    rintro e V7 ⟨rfl, hx7⟩
    dsimp only
    have HP2 := hid_of (HP.out V7 (hx6.trans hx7))
    go_wp2_with fail
    try (first | go_ret | go_ret2 | go_ret3 | go_end0)
    exact HP2.out
  · have tw : w64 tb = 5 := by unfold w64; rw [HRT.out.2, tblU_nat, hk, tbl_C]; rfl
    have rn : r.toNat = kc.toNat := by
      rw [HRT.out.1, rowU_nat, hk, keyC_nat _ (by omega)]
      omega
    have e1 : 1 ≤ w64 r := by unfold w64; rw [rn]; omega
    have e3 : w64 r ≤ 14 := by unfold w64; rw [rn]; omega
    have e2 : w64 p.value ≤ 9223372036854775807 := by
      have q1 := max_C HLI.out (by omega) kc hc1 hc2
      rw [← hk, HLV.out] at q1
      unfold w64
      omega
    have HP := hid_of (HFIN.out B V1 (HBI.out.skip HLI.out.now.wf.nd HPP.out (fun a t e => by rw [hk] at e; exact ne_of_false (kCB _ _ _) e) (fun t e => by rw [hk] at e; exact ne_of_false (kCS _ _) e) (by rw [hk, tbl_C]; omega)) (H1.out.sub (fun q hq => List.mem_cons_of_mem _ hq)))
    clear hk rn HFIN
    go_wp2_with fail
    try (first | go_ret | go_ret2 | go_ret3 | go_end0)
    exact HP.out
end Go.Proofs.Qxb6500786aGreat
