import Derived.Test.Qxb6500786aDesA
import Derived.StillTailTactics
import Derived.Deep.QuietTactic
import Derived.BigQuiet
import Derived.Deep.RegionHeld
import Derived.Deep.CutRange
import Derived.Laws.ResultCell
import Derived.Laws.Rows
import Derived.DeepKeys
import Derived.DataBytes
import Derived.Laws.StructEq
import Derived.Laws.AppendOwn
set_option linter.unusedSimpArgs false
set_option linter.unusedVariables false
namespace Go.Proofs.Qxb6500786a
open Go.RowKit Go.Blk
attribute [local go_sem ↓] execOp_load execOp_store execOp_alloc
attribute [local go_sem] Try.ld33 Try.st33 Try.ld24 Try.st24 Try.ld29 Try.st29 Try.ld30 Try.st30 Try.ld31 Try.st31 Try.ld5 Try.st5 Try.ld28 Try.st28 Try.ld27 Try.st27 Try.ld26 Try.st26 Try.ld2 Try.st2 Try.ld3 Try.st3 Try.ld4 Try.st4 Try.ld9 Try.st9 Try.ld12 Try.st12 Try.ld21 Try.st21 Try.ld22 Try.st22 Try.ld41 Try.st41 Try.ld50 Try.st50 Try.ld55 Try.st55 Try.ld63 Try.st63 Try.ld78 Try.st78 Try.ld87 Try.st87 Try.ld91 Try.st91 Try.ld32 Try.st32 Try.ld47 Try.st47 Try.ld52 Try.st52 Try.ld71 Try.st71 Try.ld35 Try.st35 Try.ld37 Try.st37 Try.ld39 Try.st39 Try.al32 Try.al47 Try.al52 Try.al71 Try.al35 Try.al37 Try.al39
attribute [local go_sem] Message.length_enc Message.ok_enc Message.all_get Message.all_set Message.kind_get Message.kind_set Message.from__get Message.from__set Message.to__get Message.to__set Message.sender_get Message.sender_set Message.receiver_get Message.receiver_set Message.seq_get Message.seq_set Message.token_get Message.token_set Message.amount_get Message.amount_set Message.size_get Message.size_set Message.payload_get Message.payload_set Tx.length_enc Tx.ok_enc Tx.all_get Tx.all_set Tx.kind_get Tx.kind_set Tx.chain_get Tx.chain_set Tx.from__get Tx.from__set Tx.nonce_get Tx.nonce_set Tx.fee_get Tx.fee_set Tx.to__get Tx.to__set Tx.dest_get Tx.dest_set Tx.token_get Tx.token_set Tx.amount_get Tx.amount_set Tx.size_get Tx.size_set Tx.payload_get Tx.payload_set Tx.msg_get Tx.msg_set Tx.msg_kind_get Tx.msg_kind_set Tx.msg_from__get Tx.msg_from__set Tx.msg_to__get Tx.msg_to__set Tx.msg_sender_get Tx.msg_sender_set Tx.msg_receiver_get Tx.msg_receiver_set Tx.msg_seq_get Tx.msg_seq_set Tx.msg_token_get Tx.msg_token_set Tx.msg_amount_get Tx.msg_amount_set Tx.msg_size_get Tx.msg_size_set Tx.msg_payload_get Tx.msg_payload_set GOp.length_enc GOp.ok_enc GOp.all_get GOp.all_set GOp.kind_get GOp.kind_set GOp.tx_get GOp.tx_set GOp.txs_get GOp.txs_set GOp.gas_get GOp.gas_set GOp.acct_get GOp.acct_set GOp.token_get GOp.token_set GOp.chain_get GOp.chain_set GOp.seq_get GOp.seq_set GOp.tx_kind_get GOp.tx_kind_set GOp.tx_chain_get GOp.tx_chain_set GOp.tx_from__get GOp.tx_from__set GOp.tx_nonce_get GOp.tx_nonce_set GOp.tx_fee_get GOp.tx_fee_set GOp.tx_to__get GOp.tx_to__set GOp.tx_dest_get GOp.tx_dest_set GOp.tx_token_get GOp.tx_token_set GOp.tx_amount_get GOp.tx_amount_set GOp.tx_size_get GOp.tx_size_set GOp.tx_payload_get GOp.tx_payload_set GOp.tx_msg_get GOp.tx_msg_set GOp.tx_msg_kind_get GOp.tx_msg_kind_set GOp.tx_msg_from__get GOp.tx_msg_from__set GOp.tx_msg_to__get GOp.tx_msg_to__set GOp.tx_msg_sender_get GOp.tx_msg_sender_set GOp.tx_msg_receiver_get GOp.tx_msg_receiver_set GOp.tx_msg_seq_get GOp.tx_msg_seq_set GOp.tx_msg_token_get GOp.tx_msg_token_set GOp.tx_msg_amount_get GOp.tx_msg_amount_set GOp.tx_msg_size_get GOp.tx_msg_size_set GOp.tx_msg_payload_get GOp.tx_msg_payload_set
attribute [local go_sem] size_put size_ext blk_put free_put blk_alloc free_alloc blk_drew free_drew blk_ext free_ext lookOr_some putOr_some segAt_some cellAt_some storeIn_some put_put put_alloc_new length_arr ok_arr_u8 ok_arr_u32 ok_arr_u64 ok_arr_i64 ok_arr_sl cellsV_agg cellsV_int cellsV_bool cellsV_string cellsV_pointer cellsV_slice cellsV_sl ok_int ok_bool ok_string ok_pointer ok_slice ok_sl toList_arr seg_arr set_arr nth_splice nth_splice0 seg_splice seg_splice0 splice_splice splice_splice0 length_splice_if
attribute [local go_sem ↓] execOp_box
attribute [local go_sem] box_run nth_arr_u8 put_arr_u8
set_option maxRecDepth 100000 in
theorem frame96 (f : Nat → Value) : frameN 96 f = #[f 0, f 1, f 2, f 3, f 4, f 5, f 6, f 7, f 8, f 9, f 10, f 11, f 12, f 13, f 14, f 15, f 16, f 17, f 18, f 19, f 20, f 21, f 22, f 23, f 24, f 25, f 26, f 27, f 28, f 29, f 30, f 31, f 32, f 33, f 34, f 35, f 36, f 37, f 38, f 39, f 40, f 41, f 42, f 43, f 44, f 45, f 46, f 47, f 48, f 49, f 50, f 51, f 52, f 53, f 54, f 55, f 56, f 57, f 58, f 59, f 60, f 61, f 62, f 63, f 64, f 65, f 66, f 67, f 68, f 69, f 70, f 71, f 72, f 73, f 74, f 75, f 76, f 77, f 78, f 79, f 80, f 81, f 82, f 83, f 84, f 85, f 86, f 87, f 88, f 89, f 90, f 91, f 92, f 93, f 94, f 95] := by kernel_rfl
def dsO (w : World) (a : Option Addr) (len cap : Nat) (k : UInt8) (f : Nat → Value) (W : World) : Prop :=
  f 3 = .int .u8 (w8 k) ∧ f 16 = .slice a len cap ∧ f 17 = .int .i64 (len : Nat) ∧ ∃ (i : Nat) (v : Value) (K : List Tx), i ≤ len ∧ f 18 = .int .i64 (i : Nat) ∧ f 4 = v ∧ Hid (SRow w.heap.size W v K (i * 65537)) ∧ Hid (w.Extends W)
def dsJ (w : World) (a : Option Addr) (len cap : Nat) (k : UInt8) (i N b m c : Nat) (D : List Value) (f : Nat → Value) (W : World) : Prop :=
  f 3 = .int .u8 (w8 k) ∧ f 16 = .slice a len cap ∧ f 17 = .int .i64 (len : Nat) ∧ f 18 = .int .i64 (i : Nat) ∧ f 23 = .slice (some ⟨b, 0, none⟩) m c ∧ f 24 = .int .i64 (m : Nat) ∧ ∃ (j : Nat) (v : Value) (K : List Tx), j ≤ m ∧ f 25 = .int .i64 (j : Nat) ∧ f 4 = v ∧ Hid (SRow w.heap.size W v K (N + j)) ∧ Hid (v.ownBlock ≠ some b) ∧ Hid (blk W b = some D) ∧ Hid (w.Extends W)
def dsP (W0 : World) (a : Option Addr) (n c : Nat) (f : Nat → Value) (W : World) : Prop :=
  f 4 = .slice a n c ∧ f 40 = .int .i64 (n : Nat) ∧ ∃ i : Nat, i ≤ n ∧ f 41 = .int .i64 (i : Nat) ∧ Hid (W0.Extends W)
def dsQ (W0 : World) (a : Option Addr) (n c i : Nat) (f : Nat → Value) (W : World) : Prop :=
  f 4 = .slice a n c ∧ f 40 = .int .i64 (n : Nat) ∧ f 41 = .int .i64 (i : Nat) ∧ f 9 = .int .i64 (i : Nat) ∧ ∃ j : Nat, j ≤ i ∧ f 10 = .int .i64 (j : Nat) ∧ Hid (W0.Extends W)
attribute [local go_sem ↓] execOp_eql35 execOp_eql37 execOp_bslice
attribute [local go_sem] eql35 eql37 bslice26
set_option maxRecDepth 20000 in
set_option maxHeartbeats 4000000 in
theorem describe_walk (w : World) (a : Option Addr) (len cap : Nat) (g : Nat → GOp) (dt : Nat → List Tx) (hS : ScriptAt w a len cap g dt) :
    Calls Try.prog 3 #[.slice a len cap] w fun e w' => e = .returned (.bool true) ∧ w.Extends w' := by
  have HS : Hid (ScriptAt w a len cap g dt) := hS
  have hm : len ≤ 9223372036854775807 := by have := hS.1; have := hS.2.1; simp only [maxLen] at this; omega
  clear hS
  go_enter Try.func3, Try.ntmps3
  go_wp2_with fail
  refine (small_any w a len cap g dt HS.out).mono ?_
  rintro e w1 ⟨⟨r, rfl, hr⟩, hw⟩
  obtain rfl : w1 = w := hw
  cases r with
  | false =>
    go_wp2_with fail
    go_ret
    exact ⟨rfl, ext_Ext (Ext.refl _)⟩
  | true =>
  have HSM : Hid (∀ i, i < len → (g i).txs.len ≤ 65536) := (hr rfl).2
  have hlen : len ≤ 65536 := (hr rfl).1
  clear hr
  go_wp2_with fail
  refine (chainOf_any w1 a len cap g dt HS.out).mono ?_
  rintro e w2 ⟨k, rfl, hw⟩
  obtain rfl : w2 = w1 := hw
  go_wp2_with fail
  refine wp_loop_f 96 (dsO w2 a len cap k) (fun f _ => len - (intOf (f 18)).toNat) rfl ?_ ?_
  · exact ⟨rfl, rfl, rfl, 0, _, [], by omega, rfl, rfl, ⟨⟨rfl, .inl ⟨rfl, rfl⟩⟩, by simp, by simp⟩, ext_Ext (Ext.refl _)⟩
  intro F W hrel
  obtain ⟨h3, h16, h17, i, v, K, hi, h18, h4, HR, HE⟩ := hrel
  have H18 : Hid (F 18 = .int .i64 (i : Nat)) := h18
  rw [frame96, h3, h16, h17, h18, h4]
  clear h3 h16 h17 h18 h4
  by_cases hil : i < len
  · have hSW := HS.out.mono HE.out
    obtain ⟨b, o, C, rfl, hC, hlC, hseg⟩ := hSW.2.2.2 (by omega)
    have hs := hseg i hil
    have HT : Hid (TxsIn W (g i).txs (dt i)) := (hSW.2.2.1 i hil).2.1
    have HTL : Hid ((g i).txs.len ≤ 65536) := HSM.out i hil
    obtain ⟨op, hop⟩ : ∃ op, op = g i := ⟨_, rfl⟩
    rw [← hop] at hs HT HTL
    obtain ⟨L, hL⟩ : ∃ L, L = dt i := ⟨_, rfl⟩
    rw [← hL] at HT
    clear hSW hseg hop hL
    have q0 : (0 : Int) ≤ (i : Int) := by omega
    have q1 : (i : Int) < (len : Int) := by omega
    have q2 : ((i : Int)).toNat = i := by omega
    have q3 : o + i * 90 + 90 ≤ C.length := by omega
    have hbl := blk_lt hC
    go_upto_region 8 with fail
    refine wp_world (fun W2 => blk W2 W.heap.size = some op.enc ∧ Hid (W.Extends W2)) ⟨?_, extends_alloc (ext_Ext (Ext.refl _)) _⟩ ?_
    · rw [blk_alloc, if_pos rfl]
    rintro W2 ⟨hbi, HE2⟩
    have hT2 : TxsIn W2 op.txs L := by
      obtain ⟨e1, e2, e3, e4⟩ := HT.out
      refine ⟨e1, e2, e3, fun h0 => ?_⟩
      obtain ⟨bp, op', C', ha, hC', hl⟩ := e4 h0
      exact ⟨bp, op', C', ha, (HE2.out.blk (blk_lt hC')).trans hC', hl⟩
    have HT2 : Hid (TxsIn W2 op.txs L) := hT2
    clear hT2 HT hC hs
    go_wp2_with fail
    refine (txsOf_any W2 op L HT2.out HTL.out).mono ?_
    rintro e W3 ⟨u, rfl, ho, he3⟩
    have hKl : (op.tx :: L).length ≤ 65537 := by have h1 := HT2.out.1; have h2 := HTL.out; rw [List.length_cons]; omega
    obtain ⟨T, hT⟩ : ∃ T, T = op.tx :: L := ⟨_, rfl⟩
    rw [← hT] at ho hKl
    obtain ⟨br, cr, D, rfl, hbr, hD, hDl, hDs⟩ := row_tx ho (by rw [hT]; simp)
    have HE3 : Hid (w2.Extends W3) := (HE.out.trans HE2.out).trans he3
    have HR3 : Hid (SRow w2.heap.size W3 v K (i * 65537)) := (HR.out.ext HE2.out).ext he3
    have HNB : Hid (v.ownBlock ≠ some br) := fun hk => by
      have h1 := (row_at HR.out.1 br hk).2.1
      have h2 := HE2.out.size
      omega
    have HD : Hid (blk W3 br = some D) := hD
    have HDS : Hid (∀ j x, T[j]? = some x → seg D (j * 83) 83 = x.enc) := hDs
    obtain ⟨m, hmT⟩ : ∃ m, m = T.length := ⟨_, rfl⟩
    rw [← hmT] at hKl hDl ⊢
    have HMK : Hid (m = T.length) := hmT
    obtain ⟨N, hN⟩ : ∃ N, N = i * 65537 := ⟨_, rfl⟩
    rw [← hN] at HR3
    have HN : Hid (N = i * 65537) := hN
    have HNl : Hid (N ≤ 65536 * 65537) := by show _ ≤ _; rw [hN]; exact Nat.mul_le_mul_right _ (by omega)
    clear ho hD hDs he3 hbr hT hmT hbi hN HR HE HE2
    have hm9 : m ≤ 9223372036854775807 := by omega
    go_wp2_with fail
    refine wp_loop_f 96 (dsJ w2 (some ⟨b, o, none⟩) len cap k i N br m cr D) (fun f _ => m - (intOf (f 25)).toNat) rfl ?_ ?_
    · exact ⟨rfl, rfl, rfl, rfl, rfl, rfl, 0, v, K, by omega, rfl, rfl, HR3, HNB, HD, HE3⟩
    clear HR3 HNB HD HE3
    intro G V hrel
    obtain ⟨h3, h16, h17, h18, h23, h24, j, v, K, hj, h25, h4, HR, HNB, HD, HV⟩ := hrel
    have H25 : Hid (G 25 = .int .i64 (j : Nat)) := h25
    rw [frame96, h3, h16, h17, h18, h23, h24, h25, h4]
    clear h3 h16 h17 h18 h23 h24 h25 h4
    by_cases hjm : j < m
    · have hDV : blk V br = some D := HD.out
      obtain ⟨x, hx⟩ : ∃ x, T[j]? = some x := ⟨_, List.getElem?_eq_getElem (by rw [← HMK.out]; exact hjm)⟩
      have hsx := HDS.out j x hx
      clear hx
      have r0 : (0 : Int) ≤ (j : Int) := by omega
      have r1 : (j : Int) < (m : Int) := by omega
      have r2 : ((j : Int)).toNat = j := by omega
      have r3 : j * 83 + 83 ≤ D.length := by omega
      go_upto_region 11 with fail
      refine wp_world (fun V2 => blk V2 V.heap.size = some x.enc ∧ V.heap.size < V2.heap.size ∧ Hid (V.Extends V2)) ⟨?_, ?_, extends_alloc (ext_Ext (Ext.refl _)) _⟩ ?_
      · rw [blk_alloc, if_pos rfl]
      · rw [World.size_alloc]; omega
      rintro V2 ⟨hbx, hbxl, HV2⟩
      obtain ⟨b8, hb8⟩ : ∃ b8, b8 = V.heap.size := ⟨_, rfl⟩
      rw [← hb8] at hbx hbxl ⊢
      have HB8 : Hid (br < b8) := by show _ < _; rw [hb8]; exact blk_lt HD.out
      clear hDV hsx hb8
      go_wp2_with fail
      refine (checkShape2 V2 k x).mono ?_
      rintro e V3 ⟨c, rfl, hc, he⟩
      have hbx3 : blk V3 b8 = some x.enc := (he.blk hbxl).trans hbx
      have HV3 : Hid (V.Extends V3) := HV2.out.trans (ext_Ext he)
      have HR3 : Hid (SRow w2.heap.size V3 v K (N + j)) := HR.out.ext HV3.out
      have HW3 : Hid (w2.Extends V3) := HV.out.trans HV3.out
      have HD3 : Hid (blk V3 br = some D) := (HV3.out.blk (blk_lt HD.out)).trans HD.out
      clear he hbx hbxl HV2 HR HV HD HV3
      by_cases hz : c = 0
      · subst hz
        have HSx : Hid (Sound x) := hc rfl
        clear hc
        have hxe : V3.Extends (V3.alloc (.cells x.enc.toArray 37)) := extends_alloc (ext_Ext (Ext.refl _)) _
        obtain ⟨v', V5, hrun, ho5, hg5, hb5⟩ := app26 w2.heap.size (V3.alloc (.cells x.enc.toArray 37)) 26 v K x V3.heap.size 1 (HR3.out.ext hxe).1 (by rw [blk_alloc, if_pos rfl]) (HW3.out.trans hxe).size (by have h1 := HR3.out.2.2; have h2 := HNl.out; omega)
        have HW5 : Hid (w2.Extends V5) := grown_ext (HW3.out.trans hxe) hg5 (fun k hk => (row_at HR3.out.1 k hk).1)
        have HR5 : Hid (SRow w2.heap.size V5 v' (K ++ [x]) (N + (j + 1))) := ⟨ho5, fun y hy => by
          rcases List.mem_append.1 hy with h | h
          · exact HR3.out.2.1 y h
          · obtain rfl : y = x := by simpa using h
            exact HSx.out, by have h1 := HR3.out.2.2; rw [List.length_append, List.length_singleton]; omega⟩
        have hbl3 := blk_lt HD3.out
        have HD5 : Hid (blk V5 br = some D) := (blk_of_heap (hg5.block br (by rw [World.size_alloc]; omega) HNB.out.symm)).trans ((hxe.blk hbl3).trans HD3.out)
        have HNB5 : Hid (v'.ownBlock ≠ some br) := fun hk => by
          rcases hb5 with h | h
          · exact HNB.out (h.symm.trans hk)
          · rw [h, World.size_alloc] at hk
            have := Option.some.inj hk
            omega
        clear ho5 hg5 hb5 hbl3 hxe HR3 HW3 HD3 HNB HSx
        go_wp2_with (at_builtin; refine wpList_append_run rfl _ _ 26 rfl _ _ _ _ rfl rfl hrun ?_)
        refine ⟨rfl, rfl, ?_, ?_⟩
        · refine ⟨rfl, rfl, rfl, rfl, rfl, rfl, j + 1, v', K ++ [x], by omega, ?_, rfl, HR5, HNB5, HD5, HW5⟩
          show Value.int .i64 _ = _
          go_num
        · show m - (intOf (Value.int .i64 _)).toNat < m - (intOf (G 25)).toNat
          rw [H25.out]
          simp [intOf]; omega
      · clear hc
        have HR5 : Hid (SRow w2.heap.size V3 v K (N + (j + 1))) := HR3.out.mono (by omega)
        go_wp2_with fail
        refine ⟨rfl, rfl, ?_, ?_⟩
        · refine ⟨rfl, rfl, rfl, rfl, rfl, rfl, j + 1, v, K, by omega, ?_, rfl, HR5, HNB, HD3, HW3⟩
          show Value.int .i64 _ = _
          go_num
        · show m - (intOf (Value.int .i64 _)).toNat < m - (intOf (G 25)).toNat
          rw [H25.out]
          simp [intOf]; omega
    · obtain rfl : j = m := by omega
      have HR5 : Hid (SRow w2.heap.size V v K ((i + 1) * 65537)) := HR.out.mono (by rw [HN.out]; omega)
      go_wp2_with fail
      refine ⟨rfl, rfl, ?_, ?_⟩
      · refine ⟨rfl, rfl, rfl, i + 1, v, K, by omega, ?_, rfl, HR5, HV⟩
        show Value.int .i64 _ = _
        go_num
      · show len - (intOf (Value.int .i64 _)).toNat < len - (intOf (F 18)).toNat
        rw [H18.out]
        simp [intOf]; omega
  · obtain rfl : i = len := by omega
    clear HS HSM
    have hKl : K.length ≤ 65536 * 65537 := Nat.le_trans HR.out.2.2 (Nat.mul_le_mul_right _ (by omega))
    obtain ⟨a4, c4, rfl⟩ := row_val HR.out.1
    have HB : Hid (K.length ≠ 0 → ∃ b, a4 = some ⟨b, 0, none⟩ ∧ ∃ E, blk W b = some E ∧ K.length * 83 ≤ E.length ∧ ∀ j x, K[j]? = some x → seg E (j * 83) 83 = x.enc) := fun h0 => by
      obtain ⟨b, cap, E, e1, e2, e3, e4, e5⟩ := row_tx HR.out.1 h0
      injection e1 with q1
      exact ⟨b, q1, E, e3, e4, e5⟩
    have HSd : Hid (∀ x ∈ K, Sound x) := HR.out.2.1
    obtain ⟨n, hn⟩ : ∃ n, n = K.length := ⟨_, rfl⟩
    rw [← hn] at hKl HB ⊢
    have HNK : Hid (n = K.length) := hn
    clear hn HR
    have hn9 : n ≤ 9223372036854775807 := by omega
    go_wp2_with fail
    refine wp_loop_f 96 (dsP W a4 n c4) (fun f _ => n - (intOf (f 41)).toNat) rfl ?_ ?_
    · exact ⟨rfl, rfl, 0, by omega, rfl, ext_Ext (Ext.refl _)⟩
    intro G V hrel
    obtain ⟨h4, h40, p, hp, h41, HV⟩ := hrel
    have H41 : Hid (G 41 = .int .i64 (p : Nat)) := h41
    rw [frame96, h4, h40, h41]
    clear h4 h40 h41
    by_cases hpn : p < n
    · obtain ⟨bs, rfl, E, hE, hEl, hEs⟩ := HB.out (by omega)
      have HBE : Hid (blk W bs = some E) := hE
      have HES : Hid (∀ j x, K[j]? = some x → seg E (j * 83) 83 = x.enc) := hEs
      obtain ⟨y, hy⟩ : ∃ y, K[p]? = some y := ⟨_, List.getElem?_eq_getElem (by rw [← HNK.out]; exact hpn)⟩
      have HSy : Hid (Sound y) := HSd.out y (List.mem_of_getElem? hy)
      have HYs : Hid (seg E (p * 83) 83 = y.enc) := hEs p y hy
      clear hy hEs hE
      have r0 : (0 : Int) ≤ (p : Int) := by omega
      have r1 : (p : Int) < (n : Int) := by omega
      have r2 : ((p : Int)).toNat = p := by omega
      have r3 : p * 83 + 83 ≤ E.length := by omega
      have r4 : p * 83 + 42 + 41 ≤ E.length := by omega
      go_wp2_with fail
      refine wp_loop_f 96 (dsQ W (some ⟨bs, 0, none⟩) n c4 p) (fun f _ => p - (intOf (f 10)).toNat) rfl ?_ ?_
      · exact ⟨rfl, rfl, rfl, rfl, 0, by omega, rfl, HV⟩
      clear HV
      intro J X hrel
      obtain ⟨h4, h40, h41, h9, j, hj, h10, HX⟩ := hrel
      have H10 : Hid (J 10 = .int .i64 (j : Nat)) := h10
      rw [frame96, h4, h40, h41, h9, h10]
      clear h4 h40 h41 h9 h10
      by_cases hjp : j < p
      · obtain ⟨z, hz⟩ : ∃ z, K[j]? = some z := ⟨_, List.getElem?_eq_getElem (by rw [← HNK.out]; omega)⟩
        have HSz : Hid (Sound z) := HSd.out z (List.mem_of_getElem? hz)
        have hzs := HES.out j z hz
        have hys := HYs.out
        clear hz
        have hym : seg E (p * 83 + 42) 41 = y.msg.enc := (seg_in hys (by omega)).trans (Tx.msg_get y)
        have hzm : seg E (j * 83 + 42) 41 = z.msg.enc := (seg_in hzs (by omega)).trans (Tx.msg_get z)
        have s0 : (0 : Int) ≤ (j : Int) := by omega
        have s1 : (j : Int) < (n : Int) := by omega
        have s2 : ((j : Int)).toNat = j := by omega
        have s3 : j * 83 + 83 ≤ E.length := by omega
        have s4 : j * 83 + 42 + 41 ≤ E.length := by omega
        have s5 : (j : Int) < (p : Int) := by omega
        have hXb : blk X bs = some E := (HX.out.blk (blk_lt HBE.out)).trans HBE.out
        have HsX : Hid (((descX y).toList == (descX z).toList) = eqX y z) := same_X HSy.out HSz.out
        have HsM : Hid (((descM y.msg).toList == (descM z.msg).toList) = eqM y.msg z.msg) := same_M HSy.out.msg HSz.out.msg
        repeat go_step
        refine wp_region_held_drew (S := fun W' => blk W' bs = some E ∧ True) (by kernel_rfl) ⟨hXb, trivial⟩ (fun hHeld => ?_)
        have h0d : blk X.drew bs = some E := hXb
        have HX0 : Hid (W.Extends X.drew) := extends_drew HX.out
        have hsX := HsX.out
        refine wpAnyH_take (i := 0) (oi := ⟨_, _, _, _, _, _⟩) (v := ?_) rfl (by kernel_rfl) (by kernel_rfl) (by kernel_rfl) (fun _ _ _ h => h) (Or.inl ⟨by rfl, ?_⟩) (by assumption) ?_
        rotate_left 1
        · intro W' hSw
          obtain ⟨hS1, hS2⟩ := hSw
          go_simp
          try with_reducible rfl
        try simp only [Act.put, List.setIfInBounds_toArray, List.set_cons_zero, List.set_cons_succ]
        refine wpAnyH_take (i := 1) (oi := ⟨_, _, _, _, _, _⟩) (v := ?_) rfl (by kernel_rfl) (by kernel_rfl) (by kernel_rfl) (fun _ _ _ h => h) (Or.inl ⟨by rfl, ?_⟩) (by assumption) ?_
        rotate_left 1
        · intro W' hSw
          obtain ⟨hS1, hS2⟩ := hSw
          go_simp
          try with_reducible rfl
        try simp only [Act.put, List.setIfInBounds_toArray, List.set_cons_zero, List.set_cons_succ]
        refine wpAnyH_take (i := 2) (oi := ⟨_, _, _, _, _, _⟩) (v := ?_) rfl (by kernel_rfl) (by kernel_rfl) (by kernel_rfl) (fun _ _ _ h => h) (Or.inl ⟨by rfl, ?_⟩) (by assumption) ?_
        rotate_left 1
        · intro W' hSw
          obtain ⟨hS1, hS2⟩ := hSw
          go_simp
          try with_reducible rfl
        try simp only [Act.put, List.setIfInBounds_toArray, List.set_cons_zero, List.set_cons_succ]
        refine wpAnyH_take (i := 3) (oi := ⟨_, _, _, _, _, _⟩) (v := ?_) rfl (by kernel_rfl) (by kernel_rfl) (by kernel_rfl) (fun _ _ _ h => h) (Or.inl ⟨by rfl, ?_⟩) (by assumption) ?_
        rotate_left 1
        · intro W' hSw
          obtain ⟨hS1, hS2⟩ := hSw
          go_simp
          try with_reducible rfl
        try simp only [Act.put, List.setIfInBounds_toArray, List.set_cons_zero, List.set_cons_succ]
        refine wpAnyH_take (i := 5) (oi := ⟨_, _, _, _, _, _⟩) (v := ?_) rfl (by kernel_rfl) (by kernel_rfl) (by kernel_rfl) (fun _ _ _ h => h) (Or.inl ⟨by rfl, ?_⟩) (by assumption) ?_
        rotate_left 1
        · intro W' hSw
          obtain ⟨hS1, hS2⟩ := hSw
          go_simp
          try with_reducible rfl
        try simp only [Act.put, List.setIfInBounds_toArray, List.set_cons_zero, List.set_cons_succ]
        refine wpAnyH_take (i := 6) (oi := ⟨_, _, _, _, _, _⟩) (v := ?_) rfl (by kernel_rfl) (by kernel_rfl) (by kernel_rfl) (fun _ _ _ h => h) (Or.inl ⟨by rfl, ?_⟩) (by assumption) ?_
        rotate_left 1
        · intro W' hSw
          obtain ⟨hS1, hS2⟩ := hSw
          go_simp
          try with_reducible rfl
        try simp only [Act.put, List.setIfInBounds_toArray, List.set_cons_zero, List.set_cons_succ]
        refine wpAnyH_take (i := 7) (oi := ⟨_, _, _, _, _, _⟩) (v := ?_) rfl (by kernel_rfl) (by kernel_rfl) (by kernel_rfl) (fun _ _ _ h => h) (Or.inl ⟨by rfl, ?_⟩) (by assumption) ?_
        rotate_left 1
        · intro W' hSw
          obtain ⟨hS1, hS2⟩ := hSw
          go_simp
          try with_reducible rfl
        try simp only [Act.put, List.setIfInBounds_toArray, List.set_cons_zero, List.set_cons_succ]
        refine wpAnyH_take (i := 8) (oi := ⟨_, _, _, _, _, _⟩) (v := ?_) rfl (by kernel_rfl) (by kernel_rfl) (by kernel_rfl) (fun _ _ _ h => h) (Or.inl ⟨by rfl, ?_⟩) (by assumption) ?_
        rotate_left 1
        · intro W' hSw
          obtain ⟨hS1, hS2⟩ := hSw
          go_simp
          try with_reducible rfl
        try simp only [Act.put, List.setIfInBounds_toArray, List.set_cons_zero, List.set_cons_succ]
        refine wpAnyH_take (i := 11) (oi := ⟨_, _, _, _, _, _⟩) (v := ?_) rfl (by kernel_rfl) (by kernel_rfl) (by kernel_rfl) (fun _ _ _ h => h) (Or.inl ⟨by rfl, ?_⟩) (by assumption) ?_
        rotate_left 1
        · intro W' hSw
          obtain ⟨hS1, hS2⟩ := hSw
          go_simp
          try with_reducible rfl
        try simp only [Act.put, List.setIfInBounds_toArray, List.set_cons_zero, List.set_cons_succ]
        refine wpAnyH_take (i := 12) (oi := ⟨_, _, _, _, _, _⟩) (v := ?_) rfl (by kernel_rfl) (by kernel_rfl) (by kernel_rfl) (fun _ _ _ h => h) (Or.inl ⟨by rfl, ?_⟩) (by assumption) ?_
        rotate_left 1
        · intro W' hSw
          obtain ⟨hS1, hS2⟩ := hSw
          go_simp
          try with_reducible rfl
        try simp only [Act.put, List.setIfInBounds_toArray, List.set_cons_zero, List.set_cons_succ]
        refine wpAnyH_take (i := 13) (oi := ⟨_, _, _, _, _, _⟩) (v := ?_) rfl (by kernel_rfl) (by kernel_rfl) (by kernel_rfl) (fun _ _ _ h => h) (Or.inl ⟨by rfl, ?_⟩) (by assumption) ?_
        rotate_left 1
        · intro W' hSw
          obtain ⟨hS1, hS2⟩ := hSw
          go_simp
          try with_reducible rfl
        try simp only [Act.put, List.setIfInBounds_toArray, List.set_cons_zero, List.set_cons_succ]
        refine wpAnyH_take (i := 14) (oi := ⟨_, _, _, _, _, _⟩) (v := ?_) rfl (by kernel_rfl) (by kernel_rfl) (by kernel_rfl) (fun _ _ _ h => h) (Or.inl ⟨by rfl, ?_⟩) (by assumption) ?_
        rotate_left 1
        · intro W' hSw
          obtain ⟨hS1, hS2⟩ := hSw
          go_simp
          try with_reducible rfl
        try simp only [Act.put, List.setIfInBounds_toArray, List.set_cons_zero, List.set_cons_succ]
        refine wpAnyH_take (i := 15) (oi := ⟨_, _, _, _, _, _⟩) (v := ?_) rfl (by kernel_rfl) (by kernel_rfl) (by kernel_rfl) (fun _ _ _ h => h) (Or.inl ⟨by rfl, ?_⟩) (by assumption) ?_
        rotate_left 1
        · intro W' hSw
          obtain ⟨hS1, hS2⟩ := hSw
          go_simp
          try with_reducible rfl
        try simp only [Act.put, List.setIfInBounds_toArray, List.set_cons_zero, List.set_cons_succ]
        refine wpAnyH_take (i := 16) (oi := ⟨_, _, _, _, _, _⟩) (v := ?_) rfl (by kernel_rfl) (by kernel_rfl) (by kernel_rfl) (fun _ _ _ h => h) (Or.inl ⟨by rfl, ?_⟩) (by assumption) ?_
        rotate_left 1
        · intro W' hSw
          obtain ⟨hS1, hS2⟩ := hSw
          go_simp
          try with_reducible rfl
        try simp only [Act.put, List.setIfInBounds_toArray, List.set_cons_zero, List.set_cons_succ]
        refine wpAnyH_take (i := 17) (oi := ⟨_, _, _, _, _, _⟩) (v := ?_) rfl (by kernel_rfl) (by kernel_rfl) (by kernel_rfl) (fun _ _ _ h => h) (Or.inl ⟨by rfl, ?_⟩) (by assumption) ?_
        rotate_left 1
        · intro W' hSw
          obtain ⟨hS1, hS2⟩ := hSw
          go_simp
          try with_reducible rfl
        try simp only [Act.put, List.setIfInBounds_toArray, List.set_cons_zero, List.set_cons_succ]
        refine wpAnyH_take (i := 18) (oi := ⟨_, _, _, _, _, _⟩) (v := ?_) rfl (by kernel_rfl) (by kernel_rfl) (by kernel_rfl) (fun _ _ _ h => h) (Or.inl ⟨by rfl, ?_⟩) (by assumption) ?_
        rotate_left 1
        · intro W' hSw
          obtain ⟨hS1, hS2⟩ := hSw
          go_simp
          try with_reducible rfl
        try simp only [Act.put, List.setIfInBounds_toArray, List.set_cons_zero, List.set_cons_succ]
        refine wpAnyH_take (i := 19) (oi := ⟨_, _, _, _, _, _⟩) (v := ?_) rfl (by kernel_rfl) (by kernel_rfl) (by kernel_rfl) (fun _ _ _ h => h) (Or.inl ⟨by rfl, ?_⟩) (by assumption) ?_
        rotate_left 1
        · intro W' hSw
          obtain ⟨hS1, hS2⟩ := hSw
          go_simp
          try with_reducible rfl
        try simp only [Act.put, List.setIfInBounds_toArray, List.set_cons_zero, List.set_cons_succ]
        refine wpAnyH_ready (rs := [4]) (by kernel_rfl) (by simp) ?_
        refine AllReadyH.cons (o := ⟨_, _, _, _, _, _⟩) rfl (fun K hK => ?_) AllReadyH.nil
        go_simp
        refine (descX_any X.drew y HSy.out.size HSy.out.msg.size).mono ?_
        rintro e X1 ⟨rfl, he⟩
        have h1 : blk X1 bs = some E := (he.blk (blk_lt h0d)).trans h0d
        have HX1 : Hid (W.Extends X1) := HX0.out.trans he
        clear he
        dsimp only
        refine hK.out _ _ ?_ (fun hHeld => ?_)
        · exact ⟨h1, trivial⟩
        clear hK K
        try simp only [Act.put, List.setIfInBounds_toArray, List.set_cons_zero, List.set_cons_succ]
        refine wpAnyH_ready (rs := [9]) (by kernel_rfl) (by simp) ?_
        refine AllReadyH.cons (o := ⟨_, _, _, _, _, _⟩) rfl (fun K hK => ?_) AllReadyH.nil
        go_simp
        refine (descX_any X1 z HSz.out.size HSz.out.msg.size).mono ?_
        rintro e X2 ⟨rfl, he⟩
        have h2 : blk X2 bs = some E := (he.blk (blk_lt h1)).trans h1
        have HX2 : Hid (W.Extends X2) := HX1.out.trans he
        clear he
        dsimp only
        refine hK.out _ _ ?_ (fun hHeld => ?_)
        · exact ⟨h2, trivial⟩
        clear hK K
        try simp only [Act.put, List.setIfInBounds_toArray, List.set_cons_zero, List.set_cons_succ]
        refine wpAnyH_take (i := 10) (oi := ⟨_, _, _, _, _, _⟩) (v := ?_) rfl (by kernel_rfl) (by kernel_rfl) (by kernel_rfl) (fun _ _ _ h => h) (Or.inl ⟨by rfl, ?_⟩) (by assumption) ?_
        rotate_left 1
        · intro W' hSw
          obtain ⟨hS1, hS2⟩ := hSw
          go_simp
          try with_reducible rfl
        try simp only [Act.put, List.setIfInBounds_toArray, List.set_cons_zero, List.set_cons_succ]
        refine wpAnyH_take (i := 20) (oi := ⟨_, _, _, _, _, _⟩) (v := ?_) rfl (by kernel_rfl) (by kernel_rfl) (by kernel_rfl) (fun _ _ _ h => h) (Or.inl ⟨by rfl, ?_⟩) (by assumption) ?_
        rotate_left 1
        · intro W' hSw
          obtain ⟨hS1, hS2⟩ := hSw
          go_simp
          try with_reducible rfl
        try simp only [Act.put, List.setIfInBounds_toArray, List.set_cons_zero, List.set_cons_succ]
        refine wpAnyH_done (by kernel_rfl) ?_ _
        clear hsX HsX h0d h1 HX0 HX1 hXb
        repeat go_step
        refine wp_region_held_drew (S := fun W' => blk W' bs = some E ∧ True) (by kernel_rfl) ⟨h2, trivial⟩ (fun hHeld => ?_)
        have h2d : blk X2.drew bs = some E := h2
        have HX2d : Hid (W.Extends X2.drew) := extends_drew HX2.out
        have hsM := HsM.out
        refine wpAnyH_take (i := 0) (oi := ⟨_, _, _, _, _, _⟩) (v := ?_) rfl (by kernel_rfl) (by kernel_rfl) (by kernel_rfl) (fun _ _ _ h => h) (Or.inl ⟨by rfl, ?_⟩) (by assumption) ?_
        rotate_left 1
        · intro W' hSw
          obtain ⟨hS1, hS2⟩ := hSw
          go_simp
          try with_reducible rfl
        try simp only [Act.put, List.setIfInBounds_toArray, List.set_cons_zero, List.set_cons_succ]
        refine wpAnyH_take (i := 1) (oi := ⟨_, _, _, _, _, _⟩) (v := ?_) rfl (by kernel_rfl) (by kernel_rfl) (by kernel_rfl) (fun _ _ _ h => h) (Or.inl ⟨by rfl, ?_⟩) (by assumption) ?_
        rotate_left 1
        · intro W' hSw
          obtain ⟨hS1, hS2⟩ := hSw
          go_simp
          try with_reducible rfl
        try simp only [Act.put, List.setIfInBounds_toArray, List.set_cons_zero, List.set_cons_succ]
        refine wpAnyH_take (i := 2) (oi := ⟨_, _, _, _, _, _⟩) (v := ?_) rfl (by kernel_rfl) (by kernel_rfl) (by kernel_rfl) (fun _ _ _ h => h) (Or.inl ⟨by rfl, ?_⟩) (by assumption) ?_
        rotate_left 1
        · intro W' hSw
          obtain ⟨hS1, hS2⟩ := hSw
          go_simp
          try with_reducible rfl
        try simp only [Act.put, List.setIfInBounds_toArray, List.set_cons_zero, List.set_cons_succ]
        refine wpAnyH_take (i := 3) (oi := ⟨_, _, _, _, _, _⟩) (v := ?_) rfl (by kernel_rfl) (by kernel_rfl) (by kernel_rfl) (fun _ _ _ h => h) (Or.inl ⟨by rfl, ?_⟩) (by assumption) ?_
        rotate_left 1
        · intro W' hSw
          obtain ⟨hS1, hS2⟩ := hSw
          go_simp
          try with_reducible rfl
        try simp only [Act.put, List.setIfInBounds_toArray, List.set_cons_zero, List.set_cons_succ]
        refine wpAnyH_take (i := 4) (oi := ⟨_, _, _, _, _, _⟩) (v := ?_) rfl (by kernel_rfl) (by kernel_rfl) (by kernel_rfl) (fun _ _ _ h => h) (Or.inl ⟨by rfl, ?_⟩) (by assumption) ?_
        rotate_left 1
        · intro W' hSw
          obtain ⟨hS1, hS2⟩ := hSw
          go_simp
          try with_reducible rfl
        try simp only [Act.put, List.setIfInBounds_toArray, List.set_cons_zero, List.set_cons_succ]
        refine wpAnyH_take (i := 6) (oi := ⟨_, _, _, _, _, _⟩) (v := ?_) rfl (by kernel_rfl) (by kernel_rfl) (by kernel_rfl) (fun _ _ _ h => h) (Or.inl ⟨by rfl, ?_⟩) (by assumption) ?_
        rotate_left 1
        · intro W' hSw
          obtain ⟨hS1, hS2⟩ := hSw
          go_simp
          try with_reducible rfl
        try simp only [Act.put, List.setIfInBounds_toArray, List.set_cons_zero, List.set_cons_succ]
        refine wpAnyH_take (i := 7) (oi := ⟨_, _, _, _, _, _⟩) (v := ?_) rfl (by kernel_rfl) (by kernel_rfl) (by kernel_rfl) (fun _ _ _ h => h) (Or.inl ⟨by rfl, ?_⟩) (by assumption) ?_
        rotate_left 1
        · intro W' hSw
          obtain ⟨hS1, hS2⟩ := hSw
          go_simp
          try with_reducible rfl
        try simp only [Act.put, List.setIfInBounds_toArray, List.set_cons_zero, List.set_cons_succ]
        refine wpAnyH_take (i := 8) (oi := ⟨_, _, _, _, _, _⟩) (v := ?_) rfl (by kernel_rfl) (by kernel_rfl) (by kernel_rfl) (fun _ _ _ h => h) (Or.inl ⟨by rfl, ?_⟩) (by assumption) ?_
        rotate_left 1
        · intro W' hSw
          obtain ⟨hS1, hS2⟩ := hSw
          go_simp
          try with_reducible rfl
        try simp only [Act.put, List.setIfInBounds_toArray, List.set_cons_zero, List.set_cons_succ]
        refine wpAnyH_take (i := 9) (oi := ⟨_, _, _, _, _, _⟩) (v := ?_) rfl (by kernel_rfl) (by kernel_rfl) (by kernel_rfl) (fun _ _ _ h => h) (Or.inl ⟨by rfl, ?_⟩) (by assumption) ?_
        rotate_left 1
        · intro W' hSw
          obtain ⟨hS1, hS2⟩ := hSw
          go_simp
          try with_reducible rfl
        try simp only [Act.put, List.setIfInBounds_toArray, List.set_cons_zero, List.set_cons_succ]
        refine wpAnyH_take (i := 10) (oi := ⟨_, _, _, _, _, _⟩) (v := ?_) rfl (by kernel_rfl) (by kernel_rfl) (by kernel_rfl) (fun _ _ _ h => h) (Or.inl ⟨by rfl, ?_⟩) (by assumption) ?_
        rotate_left 1
        · intro W' hSw
          obtain ⟨hS1, hS2⟩ := hSw
          go_simp
          try with_reducible rfl
        try simp only [Act.put, List.setIfInBounds_toArray, List.set_cons_zero, List.set_cons_succ]
        refine wpAnyH_take (i := 13) (oi := ⟨_, _, _, _, _, _⟩) (v := ?_) rfl (by kernel_rfl) (by kernel_rfl) (by kernel_rfl) (fun _ _ _ h => h) (Or.inl ⟨by rfl, ?_⟩) (by assumption) ?_
        rotate_left 1
        · intro W' hSw
          obtain ⟨hS1, hS2⟩ := hSw
          go_simp
          try with_reducible rfl
        try simp only [Act.put, List.setIfInBounds_toArray, List.set_cons_zero, List.set_cons_succ]
        refine wpAnyH_take (i := 14) (oi := ⟨_, _, _, _, _, _⟩) (v := ?_) rfl (by kernel_rfl) (by kernel_rfl) (by kernel_rfl) (fun _ _ _ h => h) (Or.inl ⟨by rfl, ?_⟩) (by assumption) ?_
        rotate_left 1
        · intro W' hSw
          obtain ⟨hS1, hS2⟩ := hSw
          go_simp
          try with_reducible rfl
        try simp only [Act.put, List.setIfInBounds_toArray, List.set_cons_zero, List.set_cons_succ]
        refine wpAnyH_take (i := 15) (oi := ⟨_, _, _, _, _, _⟩) (v := ?_) rfl (by kernel_rfl) (by kernel_rfl) (by kernel_rfl) (fun _ _ _ h => h) (Or.inl ⟨by rfl, ?_⟩) (by assumption) ?_
        rotate_left 1
        · intro W' hSw
          obtain ⟨hS1, hS2⟩ := hSw
          go_simp
          try with_reducible rfl
        try simp only [Act.put, List.setIfInBounds_toArray, List.set_cons_zero, List.set_cons_succ]
        refine wpAnyH_take (i := 16) (oi := ⟨_, _, _, _, _, _⟩) (v := ?_) rfl (by kernel_rfl) (by kernel_rfl) (by kernel_rfl) (fun _ _ _ h => h) (Or.inl ⟨by rfl, ?_⟩) (by assumption) ?_
        rotate_left 1
        · intro W' hSw
          obtain ⟨hS1, hS2⟩ := hSw
          go_simp
          try with_reducible rfl
        try simp only [Act.put, List.setIfInBounds_toArray, List.set_cons_zero, List.set_cons_succ]
        refine wpAnyH_take (i := 17) (oi := ⟨_, _, _, _, _, _⟩) (v := ?_) rfl (by kernel_rfl) (by kernel_rfl) (by kernel_rfl) (fun _ _ _ h => h) (Or.inl ⟨by rfl, ?_⟩) (by assumption) ?_
        rotate_left 1
        · intro W' hSw
          obtain ⟨hS1, hS2⟩ := hSw
          go_simp
          try with_reducible rfl
        try simp only [Act.put, List.setIfInBounds_toArray, List.set_cons_zero, List.set_cons_succ]
        refine wpAnyH_take (i := 18) (oi := ⟨_, _, _, _, _, _⟩) (v := ?_) rfl (by kernel_rfl) (by kernel_rfl) (by kernel_rfl) (fun _ _ _ h => h) (Or.inl ⟨by rfl, ?_⟩) (by assumption) ?_
        rotate_left 1
        · intro W' hSw
          obtain ⟨hS1, hS2⟩ := hSw
          go_simp
          try with_reducible rfl
        try simp only [Act.put, List.setIfInBounds_toArray, List.set_cons_zero, List.set_cons_succ]
        refine wpAnyH_take (i := 19) (oi := ⟨_, _, _, _, _, _⟩) (v := ?_) rfl (by kernel_rfl) (by kernel_rfl) (by kernel_rfl) (fun _ _ _ h => h) (Or.inl ⟨by rfl, ?_⟩) (by assumption) ?_
        rotate_left 1
        · intro W' hSw
          obtain ⟨hS1, hS2⟩ := hSw
          go_simp
          try with_reducible rfl
        try simp only [Act.put, List.setIfInBounds_toArray, List.set_cons_zero, List.set_cons_succ]
        refine wpAnyH_take (i := 20) (oi := ⟨_, _, _, _, _, _⟩) (v := ?_) rfl (by kernel_rfl) (by kernel_rfl) (by kernel_rfl) (fun _ _ _ h => h) (Or.inl ⟨by rfl, ?_⟩) (by assumption) ?_
        rotate_left 1
        · intro W' hSw
          obtain ⟨hS1, hS2⟩ := hSw
          go_simp
          try with_reducible rfl
        try simp only [Act.put, List.setIfInBounds_toArray, List.set_cons_zero, List.set_cons_succ]
        refine wpAnyH_take (i := 21) (oi := ⟨_, _, _, _, _, _⟩) (v := ?_) rfl (by kernel_rfl) (by kernel_rfl) (by kernel_rfl) (fun _ _ _ h => h) (Or.inl ⟨by rfl, ?_⟩) (by assumption) ?_
        rotate_left 1
        · intro W' hSw
          obtain ⟨hS1, hS2⟩ := hSw
          go_simp
          try with_reducible rfl
        try simp only [Act.put, List.setIfInBounds_toArray, List.set_cons_zero, List.set_cons_succ]
        refine wpAnyH_take (i := 22) (oi := ⟨_, _, _, _, _, _⟩) (v := ?_) rfl (by kernel_rfl) (by kernel_rfl) (by kernel_rfl) (fun _ _ _ h => h) (Or.inl ⟨by rfl, ?_⟩) (by assumption) ?_
        rotate_left 1
        · intro W' hSw
          obtain ⟨hS1, hS2⟩ := hSw
          go_simp
          try with_reducible rfl
        try simp only [Act.put, List.setIfInBounds_toArray, List.set_cons_zero, List.set_cons_succ]
        refine wpAnyH_take (i := 23) (oi := ⟨_, _, _, _, _, _⟩) (v := ?_) rfl (by kernel_rfl) (by kernel_rfl) (by kernel_rfl) (fun _ _ _ h => h) (Or.inl ⟨by rfl, ?_⟩) (by assumption) ?_
        rotate_left 1
        · intro W' hSw
          obtain ⟨hS1, hS2⟩ := hSw
          go_simp
          try with_reducible rfl
        try simp only [Act.put, List.setIfInBounds_toArray, List.set_cons_zero, List.set_cons_succ]
        refine wpAnyH_ready (rs := [5]) (by kernel_rfl) (by simp) ?_
        refine AllReadyH.cons (o := ⟨_, _, _, _, _, _⟩) rfl (fun K hK => ?_) AllReadyH.nil
        go_simp
        refine (descM_any X2.drew y.msg HSy.out.msg.size).mono ?_
        rintro e X3 ⟨rfl, he⟩
        have h3 : blk X3 bs = some E := (he.blk (blk_lt h2d)).trans h2d
        have HX3 : Hid (W.Extends X3) := HX2d.out.trans he
        clear he
        dsimp only
        refine hK.out _ _ ?_ (fun hHeld => ?_)
        · exact ⟨h3, trivial⟩
        clear hK K
        try simp only [Act.put, List.setIfInBounds_toArray, List.set_cons_zero, List.set_cons_succ]
        refine wpAnyH_ready (rs := [11]) (by kernel_rfl) (by simp) ?_
        refine AllReadyH.cons (o := ⟨_, _, _, _, _, _⟩) rfl (fun K hK => ?_) AllReadyH.nil
        go_simp
        refine (descM_any X3 z.msg HSz.out.msg.size).mono ?_
        rintro e X4 ⟨rfl, he⟩
        have h4 : blk X4 bs = some E := (he.blk (blk_lt h3)).trans h3
        have HX4 : Hid (W.Extends X4) := HX3.out.trans he
        clear he
        dsimp only
        refine hK.out _ _ ?_ (fun hHeld => ?_)
        · exact ⟨h4, trivial⟩
        clear hK K
        try simp only [Act.put, List.setIfInBounds_toArray, List.set_cons_zero, List.set_cons_succ]
        refine wpAnyH_take (i := 12) (oi := ⟨_, _, _, _, _, _⟩) (v := ?_) rfl (by kernel_rfl) (by kernel_rfl) (by kernel_rfl) (fun _ _ _ h => h) (Or.inl ⟨by rfl, ?_⟩) (by assumption) ?_
        rotate_left 1
        · intro W' hSw
          obtain ⟨hS1, hS2⟩ := hSw
          go_simp
          try with_reducible rfl
        try simp only [Act.put, List.setIfInBounds_toArray, List.set_cons_zero, List.set_cons_succ]
        refine wpAnyH_take (i := 24) (oi := ⟨_, _, _, _, _, _⟩) (v := ?_) rfl (by kernel_rfl) (by kernel_rfl) (by kernel_rfl) (fun _ _ _ h => h) (Or.inl ⟨by rfl, ?_⟩) (by assumption) ?_
        rotate_left 1
        · intro W' hSw
          obtain ⟨hS1, hS2⟩ := hSw
          go_simp
          try with_reducible rfl
        try simp only [Act.put, List.setIfInBounds_toArray, List.set_cons_zero, List.set_cons_succ]
        refine wpAnyH_done (by kernel_rfl) ?_ _
        clear hsM HsM h2d h3 h4 HX2 HX2d HX3 h2
        go_wp2_with fail
        refine ⟨rfl, rfl, ?_, ?_⟩
        · refine ⟨rfl, rfl, rfl, rfl, j + 1, by omega, ?_, HX4⟩
          show Value.int .i64 _ = _
          go_num
        · show p - (intOf (Value.int .i64 _)).toNat < p - (intOf (J 10)).toNat
          rw [H10.out]
          simp [intOf]; omega
      · obtain rfl : j = p := by omega
        go_wp2_with fail
        refine ⟨rfl, rfl, ?_, ?_⟩
        · refine ⟨rfl, rfl, j + 1, by omega, ?_, HX⟩
          show Value.int .i64 _ = _
          go_num
        · show n - (intOf (Value.int .i64 _)).toNat < n - (intOf (G 41)).toNat
          rw [H41.out]
          simp [intOf]; omega
    · obtain rfl : p = n := by omega
      go_wp2_with fail
      go_ret
      exact ⟨rfl, HE.out.trans HV.out⟩
end Go.Proofs.Qxb6500786a
