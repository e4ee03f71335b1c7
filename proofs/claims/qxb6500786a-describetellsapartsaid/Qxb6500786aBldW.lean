import Derived.Test.Qxb6500786aTxs
import Derived.StillTailTactics
import Derived.Deep.QuietTactic
import Derived.BigQuiet
import Derived.Deep.RegionHeld
import Derived.Deep.CutRange
import Derived.Laws.ResultCell
import Derived.Laws.Rows
import Derived.DeepKeys
import Derived.DataBytes
import Derived.Laws.StructEq
import Derived.Laws.AppendOwn
set_option linter.unusedSimpArgs false
set_option linter.unusedVariables false
namespace Go.Proofs.Qxb6500786a
open Go.RowKit Go.Blk
attribute [local go_sem ↓] execOp_load execOp_store execOp_alloc
attribute [local go_sem] Try.ld33 Try.st33 Try.ld24 Try.st24 Try.ld29 Try.st29 Try.ld30 Try.st30 Try.ld31 Try.st31 Try.ld5 Try.st5 Try.ld28 Try.st28 Try.ld27 Try.st27 Try.ld26 Try.st26 Try.ld2 Try.st2 Try.ld3 Try.st3 Try.ld4 Try.st4 Try.ld9 Try.st9 Try.ld12 Try.st12 Try.ld21 Try.st21 Try.ld22 Try.st22 Try.ld41 Try.st41 Try.ld50 Try.st50 Try.ld55 Try.st55 Try.ld63 Try.st63 Try.ld78 Try.st78 Try.ld87 Try.st87 Try.ld91 Try.st91 Try.ld32 Try.st32 Try.ld47 Try.st47 Try.ld52 Try.st52 Try.ld71 Try.st71 Try.ld35 Try.st35 Try.ld37 Try.st37 Try.ld39 Try.st39 Try.al32 Try.al47 Try.al52 Try.al71 Try.al35 Try.al37 Try.al39
attribute [local go_sem] Message.length_enc Message.ok_enc Message.all_get Message.all_set Message.kind_get Message.kind_set Message.from__get Message.from__set Message.to__get Message.to__set Message.sender_get Message.sender_set Message.receiver_get Message.receiver_set Message.seq_get Message.seq_set Message.token_get Message.token_set Message.amount_get Message.amount_set Message.size_get Message.size_set Message.payload_get Message.payload_set Tx.length_enc Tx.ok_enc Tx.all_get Tx.all_set Tx.kind_get Tx.kind_set Tx.chain_get Tx.chain_set Tx.from__get Tx.from__set Tx.nonce_get Tx.nonce_set Tx.fee_get Tx.fee_set Tx.to__get Tx.to__set Tx.dest_get Tx.dest_set Tx.token_get Tx.token_set Tx.amount_get Tx.amount_set Tx.size_get Tx.size_set Tx.payload_get Tx.payload_set Tx.msg_get Tx.msg_set Tx.msg_kind_get Tx.msg_kind_set Tx.msg_from__get Tx.msg_from__set Tx.msg_to__get Tx.msg_to__set Tx.msg_sender_get Tx.msg_sender_set Tx.msg_receiver_get Tx.msg_receiver_set Tx.msg_seq_get Tx.msg_seq_set Tx.msg_token_get Tx.msg_token_set Tx.msg_amount_get Tx.msg_amount_set Tx.msg_size_get Tx.msg_size_set Tx.msg_payload_get Tx.msg_payload_set GOp.length_enc GOp.ok_enc GOp.all_get GOp.all_set GOp.kind_get GOp.kind_set GOp.tx_get GOp.tx_set GOp.txs_get GOp.txs_set GOp.gas_get GOp.gas_set GOp.acct_get GOp.acct_set GOp.token_get GOp.token_set GOp.chain_get GOp.chain_set GOp.seq_get GOp.seq_set GOp.tx_kind_get GOp.tx_kind_set GOp.tx_chain_get GOp.tx_chain_set GOp.tx_from__get GOp.tx_from__set GOp.tx_nonce_get GOp.tx_nonce_set GOp.tx_fee_get GOp.tx_fee_set GOp.tx_to__get GOp.tx_to__set GOp.tx_dest_get GOp.tx_dest_set GOp.tx_token_get GOp.tx_token_set GOp.tx_amount_get GOp.tx_amount_set GOp.tx_size_get GOp.tx_size_set GOp.tx_payload_get GOp.tx_payload_set GOp.tx_msg_get GOp.tx_msg_set GOp.tx_msg_kind_get GOp.tx_msg_kind_set GOp.tx_msg_from__get GOp.tx_msg_from__set GOp.tx_msg_to__get GOp.tx_msg_to__set GOp.tx_msg_sender_get GOp.tx_msg_sender_set GOp.tx_msg_receiver_get GOp.tx_msg_receiver_set GOp.tx_msg_seq_get GOp.tx_msg_seq_set GOp.tx_msg_token_get GOp.tx_msg_token_set GOp.tx_msg_amount_get GOp.tx_msg_amount_set GOp.tx_msg_size_get GOp.tx_msg_size_set GOp.tx_msg_payload_get GOp.tx_msg_payload_set
attribute [local go_sem] size_put size_ext blk_put free_put blk_alloc free_alloc blk_drew free_drew blk_ext free_ext lookOr_some putOr_some segAt_some cellAt_some storeIn_some put_put put_alloc_new length_arr ok_arr_u8 ok_arr_u32 ok_arr_u64 ok_arr_i64 ok_arr_sl cellsV_agg cellsV_int cellsV_bool cellsV_string cellsV_pointer cellsV_slice cellsV_sl ok_int ok_bool ok_string ok_pointer ok_slice ok_sl toList_arr seg_arr set_arr nth_splice nth_splice0 seg_splice seg_splice0 splice_splice splice_splice0 length_splice_if
attribute [local go_sem ↓] execOp_box
attribute [local go_sem] box_run nth_arr_u8 put_arr_u8
attribute [local go_sem ↓] execOp_neq37
attribute [local go_sem] neq37
set_option maxRecDepth 100000 in
theorem frame56 (f : Nat → Value) : frameN 56 f = #[f 0, f 1, f 2, f 3, f 4, f 5, f 6, f 7, f 8, f 9, f 10, f 11, f 12, f 13, f 14, f 15, f 16, f 17, f 18, f 19, f 20, f 21, f 22, f 23, f 24, f 25, f 26, f 27, f 28, f 29, f 30, f 31, f 32, f 33, f 34, f 35, f 36, f 37, f 38, f 39, f 40, f 41, f 42, f 43, f 44, f 45, f 46, f 47, f 48, f 49, f 50, f 51, f 52, f 53, f 54, f 55] := by kernel_rfl
theorem seg_flat : ∀ (K : List Tx) (j : Nat) (x : Tx), K[j]? = some x → seg (K.flatMap Tx.enc) (j * 83) 83 = x.enc
  | [], j, x, h => by simp at h
  | y :: K, 0, x, h => by
    obtain rfl : y = x := by simpa using h
    rw [List.flatMap_cons]
    unfold seg
    rw [Nat.zero_mul, List.drop_zero, List.take_append_of_le_length (by rw [Tx.length_enc]; omega)]
    exact List.take_of_length_le (by rw [Tx.length_enc]; omega)
  | y :: K, j + 1, x, h => by
    have ih := seg_flat K j x (by simpa using h)
    rw [List.flatMap_cons]
    unfold seg at ih ⊢
    rw [show (j + 1) * 83 = y.enc.length + j * 83 by rw [Tx.length_enc]; omega, ← List.drop_drop, List.drop_left]
    exact ih
theorem row_tx {B : Nat} {W : World} {v : Value} {K : List Tx} (h : W.ownsRow B 37 83 v K.length (K.flatMap Tx.enc)) (hne : K.length ≠ 0) : ∃ b cap C, v = .slice (some ⟨b, 0, none⟩) K.length cap ∧ B ≤ b ∧ blk W b = some C ∧ K.length * 83 ≤ C.length ∧ ∀ j x, K[j]? = some x → seg C (j * 83) 83 = x.enc := by
  obtain ⟨h1, h2 | ⟨g, cap, cur, e1, e2, e3, e4, e5, e6, e7⟩⟩ := h
  · exact absurd h2.2 hne
  · have hcl : cur.toList.length = cap * 83 := by rw [Array.length_toList]; exact e6
    have hle : K.length * 83 ≤ cap * 83 := Nat.mul_le_mul_right _ e4
    refine ⟨g, cap, cur.toList, e1, e2, blk_mk e3, by omega, fun j x hx => ?_⟩
    have h3 := seg_flat K j x hx
    have hj : j < K.length := (List.getElem?_eq_some_iff.1 hx).1
    rw [← e7] at h3
    rw [← h3]
    unfold seg
    rw [List.drop_take, List.take_take, Nat.min_eq_left (by omega)]
def bcO (w : World) (a : Option Addr) (len cap : Nat) (k : UInt8) (f : Nat → Value) (W : World) : Prop :=
  f 3 = .int .u8 (w8 k) ∧ f 15 = .slice a len cap ∧ f 16 = .int .i64 (len : Nat) ∧ ∃ i : Nat, i ≤ len ∧ f 17 = .int .i64 (i : Nat) ∧ Hid (w.Extends W)
def bcJ (W1 : World) (a : Option Addr) (len cap : Nat) (k : UInt8) (i : Nat) (b m c : Nat) (f : Nat → Value) (W : World) : Prop :=
  f 3 = .int .u8 (w8 k) ∧ f 15 = .slice a len cap ∧ f 16 = .int .i64 (len : Nat) ∧ f 17 = .int .i64 (i : Nat) ∧ f 22 = .slice (some ⟨b, 0, none⟩) m c ∧ f 23 = .int .i64 (m : Nat) ∧ ∃ j : Nat, j ≤ m ∧ f 24 = .int .i64 (j : Nat) ∧ Hid (W1.Extends W)
set_option maxRecDepth 20000 in
set_option maxHeartbeats 4000000 in
theorem builders_walk (w : World) (a : Option Addr) (len cap : Nat) (g : Nat → GOp) (dt : Nat → List Tx) (hS : ScriptAt w a len cap g dt) :
    Calls Try.prog 4 #[.slice a len cap] w fun e w' => e = .returned (.bool true) ∧ w.Extends w' := by
  have HS : Hid (ScriptAt w a len cap g dt) := hS
  have hm : len ≤ 9223372036854775807 := by have := hS.1; have := hS.2.1; simp only [maxLen] at this; omega
  clear hS
  go_enter Try.func4, Try.ntmps4
  go_wp2_with fail
  refine (small_any w a len cap g dt HS.out).mono ?_
  rintro e w1 ⟨⟨r, rfl, hr⟩, hw⟩
  obtain rfl : w1 = w := hw
  cases r with
  | false =>
    go_wp2_with fail
    go_ret
    exact ⟨rfl, ext_Ext (Ext.refl _)⟩
  | true =>
  have HSM : Hid (∀ i, i < len → (g i).txs.len ≤ 65536) := (hr rfl).2
  have hlen : len ≤ 65536 := (hr rfl).1
  clear hr
  go_wp2_with fail
  refine (chainOf_any w1 a len cap g dt HS.out).mono ?_
  rintro e w2 ⟨k, rfl, hw⟩
  obtain rfl : w2 = w1 := hw
  go_wp2_with fail
  refine wp_loop_f 56 (bcO w2 a len cap k) (fun f _ => len - (intOf (f 17)).toNat) rfl ?_ ?_
  · exact ⟨rfl, rfl, rfl, 0, by omega, rfl, ext_Ext (Ext.refl _)⟩
  intro F W hrel
  obtain ⟨h3, h15, h16, i, hi, h17, HE⟩ := hrel
  have H17 : Hid (F 17 = .int .i64 (i : Nat)) := h17
  rw [frame56, h3, h15, h16, h17]
  clear h3 h15 h16 h17
  by_cases hil : i < len
  · have hSW := HS.out.mono HE.out
    obtain ⟨b, o, C, rfl, hC, hlC, hseg⟩ := hSW.2.2.2 (by omega)
    have hs := hseg i hil
    have HT : Hid (TxsIn W (g i).txs (dt i)) := (hSW.2.2.1 i hil).2.1
    have HTL : Hid ((g i).txs.len ≤ 65536) := HSM.out i hil
    obtain ⟨op, hop⟩ : ∃ op, op = g i := ⟨_, rfl⟩
    rw [← hop] at hs HT HTL
    obtain ⟨L, hL⟩ : ∃ L, L = dt i := ⟨_, rfl⟩
    rw [← hL] at HT
    clear hSW hseg hop hL
    have q0 : (0 : Int) ≤ (i : Int) := by omega
    have q1 : (i : Int) < (len : Int) := by omega
    have q2 : ((i : Int)).toNat = i := by omega
    have q3 : o + i * 90 + 90 ≤ C.length := by omega
    have hbl := blk_lt hC
    go_upto_region 7 with fail
    refine wp_world (fun W2 => blk W2 W.heap.size = some op.enc ∧ Hid (W.Extends W2)) ⟨?_, extends_alloc (ext_Ext (Ext.refl _)) _⟩ ?_
    · rw [blk_alloc, if_pos rfl]
    rintro W2 ⟨hbi, HE2⟩
    have hT2 : TxsIn W2 op.txs L := by
      obtain ⟨e1, e2, e3, e4⟩ := HT.out
      refine ⟨e1, e2, e3, fun h0 => ?_⟩
      obtain ⟨bp, op', C', ha, hC', hl⟩ := e4 h0
      exact ⟨bp, op', C', ha, (HE2.out.blk (blk_lt hC')).trans hC', hl⟩
    have HT2 : Hid (TxsIn W2 op.txs L) := hT2
    clear hT2 HT hC hs
    go_wp2_with fail
    refine (txsOf_any W2 op L HT2.out HTL.out).mono ?_
    rintro e W3 ⟨v, rfl, ho, he3⟩
    have hKl : (op.tx :: L).length ≤ 65537 := by have h1 := HT2.out.1; have h2 := HTL.out; rw [List.length_cons]; omega
    obtain ⟨K, hK⟩ : ∃ K, K = op.tx :: L := ⟨_, rfl⟩
    rw [← hK] at ho hKl
    obtain ⟨br, cr, D, rfl, hbr, hD, hDl, hDs⟩ := row_tx ho (by rw [hK]; simp)
    have HE3 : Hid (w2.Extends W3) := (HE.out.trans HE2.out).trans he3
    have HD : Hid (blk W3 br = some D) := hD
    have HDS : Hid (∀ j x, K[j]? = some x → seg D (j * 83) 83 = x.enc) := hDs
    obtain ⟨m, hmK⟩ : ∃ m, m = K.length := ⟨_, rfl⟩
    rw [← hmK] at hKl hDl ⊢
    have HMK : Hid (m = K.length) := hmK
    clear ho hD hDs he3 hbr hK hmK hbi
    have hm9 : m ≤ 9223372036854775807 := by omega
    go_wp2_with fail
    refine wp_loop_f 56 (bcJ W3 (some ⟨b, o, none⟩) len cap k i br m cr) (fun f _ => m - (intOf (f 24)).toNat) rfl ?_ ?_
    · exact ⟨rfl, rfl, rfl, rfl, rfl, rfl, 0, by omega, rfl, ext_Ext (Ext.refl _)⟩
    intro G V hrel
    obtain ⟨h3, h15, h16, h17, h22, h23, j, hj, h24, HV⟩ := hrel
    have H24 : Hid (G 24 = .int .i64 (j : Nat)) := h24
    rw [frame56, h3, h15, h16, h17, h22, h23, h24]
    clear h3 h15 h16 h17 h22 h23 h24
    by_cases hjm : j < m
    · have hDV : blk V br = some D := (HV.out.blk (blk_lt HD.out)).trans HD.out
      obtain ⟨x, hx⟩ : ∃ x, K[j]? = some x := ⟨_, List.getElem?_eq_getElem (by rw [← HMK.out]; exact hjm)⟩
      have hsx := HDS.out j x hx
      clear hx
      have r0 : (0 : Int) ≤ (j : Int) := by omega
      have r1 : (j : Int) < (m : Int) := by omega
      have r2 : ((j : Int)).toNat = j := by omega
      have r3 : j * 83 + 83 ≤ D.length := by omega
      go_upto_region 10 with fail
      refine wp_world (fun V2 => blk V2 V.heap.size = some x.enc ∧ V.heap.size < V2.heap.size ∧ Hid (W3.Extends V2)) ⟨?_, ?_, extends_alloc HV.out _⟩ ?_
      · rw [blk_alloc, if_pos rfl]
      · rw [World.size_alloc]; omega
      rintro V2 ⟨hbx, hbxl, HV2⟩
      obtain ⟨b7, hb7⟩ : ∃ b7, b7 = V.heap.size := ⟨_, rfl⟩
      rw [← hb7] at hbx hbxl ⊢
      clear hDV hsx HV hb7
      obtain ⟨y, c, hrb⟩ : ∃ y c, rebuildF x = (y, c) := ⟨_, _, rfl⟩
      go_wp2_with fail
      refine (rebuild_any V2 x).mono ?_
      rintro e V3 ⟨rfl, he⟩
      rw [hrb]
      have hbx3 : blk V3 b7 = some x.enc := (he.blk hbxl).trans hbx
      have hb3 : b7 < V3.heap.size := blk_lt hbx3
      have HV3 : Hid (W3.Extends V3) := HV2.out.trans (ext_Ext he)
      have HRB : Hid (rebuildF x = (y, c)) := hrb
      clear hbx hbxl HV2 he hrb
      have n3 : ¬ b7 = V3.heap.size := by omega
      dsimp only
      go_upto_region 11 with fail
      refine wp_world (fun V4 => blk V4 b7 = some x.enc ∧ blk V4 V3.heap.size = some y.enc ∧ Hid (W3.Extends V4)) ⟨?_, ?_, extends_alloc HV3.out _⟩ ?_
      · rw [blk_alloc, if_neg n3]; exact hbx3
      · rw [blk_alloc, if_pos rfl]
      rintro V4 ⟨h7, h8, HV4⟩
      obtain ⟨b8, hb8⟩ : ∃ b8, b8 = V3.heap.size := ⟨_, rfl⟩
      rw [← hb8] at h8 n3 ⊢
      clear hbx3 hb3 HV3 hb8
      go_wp2_with fail
      refine (checkShape_any V4 k x).mono ?_
      rintro e V5 ⟨c1, rfl, _, hc1, he⟩
      have h75 : blk V5 b7 = some x.enc := (he.blk (blk_lt h7)).trans h7
      have h85 : blk V5 b8 = some y.enc := (he.blk (blk_lt h8)).trans h8
      have HV5 : Hid (W3.Extends V5) := HV4.out.trans (ext_Ext he)
      clear h7 h8 HV4 he
      by_cases hz : c1 = 0
      · subst hz
        have hrs := rebuild_same (hc1 rfl)
        rw [HRB.out] at hrs
        obtain ⟨rfl, rfl⟩ := Prod.mk.inj hrs
        clear hrs hc1
        go_wp2_with fail
        refine (checkShape_any V5 k _).mono ?_
        rintro e V6 ⟨c2, rfl, hc2, _, he⟩
        have hc14 : ¬ c2 = 14 := fun h => hc2 h (rebuild_clean HRB.out)
        have HV6 : Hid (W3.Extends V6) := HV5.out.trans (ext_Ext he)
        clear hc2 he h75 h85
        go_wp2_with fail
        refine ⟨rfl, rfl, ?_, ?_⟩
        · refine ⟨rfl, rfl, rfl, rfl, rfl, rfl, j + 1, by omega, ?_, HV6⟩
          show Value.int .i64 _ = _
          go_num
        · show m - (intOf (Value.int .i64 _)).toNat < m - (intOf (G 24)).toNat
          rw [H24.out]
          simp [intOf]; omega
      · clear hc1
        by_cases hc : c = 0
        · subst hc
          go_wp2_with fail
          refine (checkShape_any V5 k _).mono ?_
          rintro e V6 ⟨c2, rfl, hc2, _, he⟩
          have hc14 : ¬ c2 = 14 := fun h => hc2 h (rebuild_clean HRB.out)
          have HV6 : Hid (W3.Extends V6) := HV5.out.trans (ext_Ext he)
          clear hc2 he h75 h85
          go_wp2_with fail
          refine ⟨rfl, rfl, ?_, ?_⟩
          · refine ⟨rfl, rfl, rfl, rfl, rfl, rfl, j + 1, by omega, ?_, HV6⟩
            show Value.int .i64 _ = _
            go_num
          · show m - (intOf (Value.int .i64 _)).toNat < m - (intOf (G 24)).toNat
            rw [H24.out]
            simp [intOf]; omega
        · go_wp2_with fail
          refine ⟨rfl, rfl, ?_, ?_⟩
          · refine ⟨rfl, rfl, rfl, rfl, rfl, rfl, j + 1, by omega, ?_, HV5⟩
            show Value.int .i64 _ = _
            go_num
          · show m - (intOf (Value.int .i64 _)).toNat < m - (intOf (G 24)).toNat
            rw [H24.out]
            simp [intOf]; omega
    · obtain rfl : j = m := by omega
      go_wp2_with fail
      refine ⟨rfl, rfl, ?_, ?_⟩
      · refine ⟨rfl, rfl, rfl, i + 1, by omega, ?_, HE3.out.trans HV.out⟩
        show Value.int .i64 _ = _
        go_num
      · show len - (intOf (Value.int .i64 _)).toNat < len - (intOf (F 17)).toNat
        rw [H17.out]
        simp [intOf]; omega
  · obtain rfl : i = len := by omega
    go_wp2_with fail
    go_ret
    exact ⟨rfl, HE.out⟩
end Go.Proofs.Qxb6500786a
