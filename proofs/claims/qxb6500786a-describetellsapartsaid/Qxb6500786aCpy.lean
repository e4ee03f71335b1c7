import Derived.Test.Qxb6500786aBld
import Derived.Test.Qxb6500786aByte
import Derived.StillTailTactics
import Derived.Deep.QuietTactic
import Derived.BigQuiet
import Derived.Deep.RegionHeld
import Derived.Deep.CutRange
import Derived.Laws.ResultCell
import Derived.Laws.Rows
import Derived.DeepKeys
import Derived.DataBytes
import Derived.Laws.StructEq
set_option linter.unusedSimpArgs false
set_option linter.unusedVariables false
namespace Go.Proofs.Qxb6500786a
open Go.RowKit Go.Blk
attribute [local go_sem ↓] execOp_load execOp_store execOp_alloc
attribute [local go_sem] Try.ld33 Try.st33 Try.ld24 Try.st24 Try.ld29 Try.st29 Try.ld30 Try.st30 Try.ld31 Try.st31 Try.ld5 Try.st5 Try.ld28 Try.st28 Try.ld27 Try.st27 Try.ld26 Try.st26 Try.ld2 Try.st2 Try.ld3 Try.st3 Try.ld4 Try.st4 Try.ld9 Try.st9 Try.ld12 Try.st12 Try.ld21 Try.st21 Try.ld22 Try.st22 Try.ld41 Try.st41 Try.ld50 Try.st50 Try.ld55 Try.st55 Try.ld63 Try.st63 Try.ld78 Try.st78 Try.ld87 Try.st87 Try.ld91 Try.st91 Try.ld32 Try.st32 Try.ld47 Try.st47 Try.ld52 Try.st52 Try.ld71 Try.st71 Try.ld35 Try.st35 Try.ld37 Try.st37 Try.ld39 Try.st39 Try.al32 Try.al47 Try.al52 Try.al71 Try.al35 Try.al37 Try.al39
attribute [local go_sem] Message.length_enc Message.ok_enc Message.all_get Message.all_set Message.kind_get Message.kind_set Message.from__get Message.from__set Message.to__get Message.to__set Message.sender_get Message.sender_set Message.receiver_get Message.receiver_set Message.seq_get Message.seq_set Message.token_get Message.token_set Message.amount_get Message.amount_set Message.size_get Message.size_set Message.payload_get Message.payload_set Tx.length_enc Tx.ok_enc Tx.all_get Tx.all_set Tx.kind_get Tx.kind_set Tx.chain_get Tx.chain_set Tx.from__get Tx.from__set Tx.nonce_get Tx.nonce_set Tx.fee_get Tx.fee_set Tx.to__get Tx.to__set Tx.dest_get Tx.dest_set Tx.token_get Tx.token_set Tx.amount_get Tx.amount_set Tx.size_get Tx.size_set Tx.payload_get Tx.payload_set Tx.msg_get Tx.msg_set Tx.msg_kind_get Tx.msg_kind_set Tx.msg_from__get Tx.msg_from__set Tx.msg_to__get Tx.msg_to__set Tx.msg_sender_get Tx.msg_sender_set Tx.msg_receiver_get Tx.msg_receiver_set Tx.msg_seq_get Tx.msg_seq_set Tx.msg_token_get Tx.msg_token_set Tx.msg_amount_get Tx.msg_amount_set Tx.msg_size_get Tx.msg_size_set Tx.msg_payload_get Tx.msg_payload_set GOp.length_enc GOp.ok_enc GOp.all_get GOp.all_set GOp.kind_get GOp.kind_set GOp.tx_get GOp.tx_set GOp.txs_get GOp.txs_set GOp.gas_get GOp.gas_set GOp.acct_get GOp.acct_set GOp.token_get GOp.token_set GOp.chain_get GOp.chain_set GOp.seq_get GOp.seq_set GOp.tx_kind_get GOp.tx_kind_set GOp.tx_chain_get GOp.tx_chain_set GOp.tx_from__get GOp.tx_from__set GOp.tx_nonce_get GOp.tx_nonce_set GOp.tx_fee_get GOp.tx_fee_set GOp.tx_to__get GOp.tx_to__set GOp.tx_dest_get GOp.tx_dest_set GOp.tx_token_get GOp.tx_token_set GOp.tx_amount_get GOp.tx_amount_set GOp.tx_size_get GOp.tx_size_set GOp.tx_payload_get GOp.tx_payload_set GOp.tx_msg_get GOp.tx_msg_set GOp.tx_msg_kind_get GOp.tx_msg_kind_set GOp.tx_msg_from__get GOp.tx_msg_from__set GOp.tx_msg_to__get GOp.tx_msg_to__set GOp.tx_msg_sender_get GOp.tx_msg_sender_set GOp.tx_msg_receiver_get GOp.tx_msg_receiver_set GOp.tx_msg_seq_get GOp.tx_msg_seq_set GOp.tx_msg_token_get GOp.tx_msg_token_set GOp.tx_msg_amount_get GOp.tx_msg_amount_set GOp.tx_msg_size_get GOp.tx_msg_size_set GOp.tx_msg_payload_get GOp.tx_msg_payload_set
attribute [local go_sem] size_put size_ext blk_put free_put blk_alloc free_alloc blk_drew free_drew blk_ext free_ext lookOr_some putOr_some segAt_some cellAt_some storeIn_some put_put put_alloc_new length_arr ok_arr_u8 ok_arr_u32 ok_arr_u64 ok_arr_i64 ok_arr_sl cellsV_agg cellsV_int cellsV_bool cellsV_string cellsV_pointer cellsV_slice cellsV_sl ok_int ok_bool ok_string ok_pointer ok_slice ok_sl toList_arr seg_arr set_arr nth_splice nth_splice0 seg_splice seg_splice0 splice_splice splice_splice0 length_splice_if
attribute [local go_sem ↓] execOp_box
attribute [local go_sem] box_run nth_arr_u8 put_arr_u8
theorem Try.sl32 (w : World) (b o : Nat) : (sliceOp 32 (.pointer (some ⟨b, o, none⟩)) none none none).run Try.prog w = .ok (.value (.slice (some ⟨b, o, none⟩) 32 32)) w := slice_arr (e := 5) (by kernel_rfl) (by kernel_rfl) w b o
theorem Try.sl32hi (w : World) (b o l : Nat) (h : l ≤ 32) : (sliceOp 32 (.pointer (some ⟨b, o, none⟩)) none (some (.int .u8 (l : Int))) none).run Try.prog w = .ok (.value (.slice (some ⟨b, o, none⟩) l 32)) w := by
  have h1 : (sliceOp 32 (.pointer (some ⟨b, o, none⟩)) none (some (.int .i64 (l : Int))) none).run Try.prog w = .ok (.value (.slice (some ⟨b, o, none⟩) l 32)) w := slice_arr_hi (e := 5) (by kernel_rfl) (by kernel_rfl) w b o l h
  rw [← h1]
  rfl
def copyOrV (x : Option World) (n : Nat) (raw : Result Value) : Result Value :=
  match x with
  | some w => .ok (.int .i64 n) w
  | none => raw
theorem copyOrV_some (w : World) (n : Nat) (raw : Result Value) : copyOrV (some w) n raw = .ok (.int .i64 n) w := rfl
def rawCopyV (P : Program) (dT sT ty : TypeId) (x y : Value) (w : World) : Result Value := (Builtin.copy_ #[dT, sT] ty #[x, y]).run P w
theorem copy_runV {P : Program} {dT sT ty e : TypeId} (hu : P.underlying dT = some (.slice e)) (hs : (P.info? e).map (·.size) = some 1) (w : World) (b o dl dc : Nat) (sp : Option Addr) (sl sc : Nat) :
    (Builtin.copy_ #[dT, sT] ty #[.slice (some ⟨b, o, none⟩) dl dc, .slice sp sl sc]).run P w = copyOrV (copyIn w (blk w b) b o (srcB w sp (min sl dl))) (min sl dl) (rawCopyV P dT sT ty (.slice (some ⟨b, o, none⟩) dl dc) (.slice sp sl sc) w) := by
  have h := copy_run (ty := ty) (sT := sT) hu hs w b o dl dc sp sl sc
  cases hc : copyIn w (blk w b) b o (srcB w sp (min sl dl)) with
  | none => rfl
  | some w' =>
    rw [hc, copyOr_some, copyOp, Sem.run_bind] at h
    rw [copyOrV_some]
    cases hr : (Builtin.copy_ #[dT, sT] ty #[.slice (some ⟨b, o, none⟩) dl dc, .slice sp sl sc]).run P w with
    | ok v w2 =>
      rw [hr] at h
      simp [Result.andThen] at h
      rw [h.1, h.2]
    | _ =>
      rw [hr] at h
      simp [Result.andThen] at h
theorem Try.cpv (w : World) (ty : TypeId) (b o dl dc : Nat) (sp : Option Addr) (sl sc : Nat) :
    (Builtin.copy_ #[63, 63] ty #[.slice (some ⟨b, o, none⟩) dl dc, .slice sp sl sc]).run Try.prog w = copyOrV (copyIn w (blk w b) b o (srcB w sp (min sl dl))) (min sl dl) (rawCopyV Try.prog 63 63 ty (.slice (some ⟨b, o, none⟩) dl dc) (.slice sp sl sc) w) :=
  copy_runV (e := 5) (by kernel_rfl) (by kernel_rfl) w b o dl dc sp sl sc
theorem Try.cp63 (w : World) (ty : TypeId) (b o dl dc : Nat) (sp : Option Addr) (sl sc : Nat) :
    (copyOp 63 63 ty (.slice (some ⟨b, o, none⟩) dl dc) (.slice sp sl sc)).run Try.prog w = copyOr (copyIn w (blk w b) b o (srcB w sp (min sl dl))) (min sl dl) (rawCopy Try.prog 63 63 ty (.slice (some ⟨b, o, none⟩) dl dc) (.slice sp sl sc) w) := copy_run (e := 5) (by kernel_rfl) (by kernel_rfl) w b o dl dc sp sl sc
theorem splice_in (C : List Value) (o n : Nat) (vs : List Value) (h : vs.length ≤ n) (hC : o + n ≤ C.length) : splice C o vs = splice C o (splice (seg C o n) 0 vs) := by
  unfold splice seg
  have hl : ((C.drop o).take n).length = n := by simp; omega
  simp only [List.take_zero, List.nil_append, Nat.zero_add, List.length_append, List.length_drop, hl]
  rw [show vs.length + (n - vs.length) = n by omega, List.drop_take, List.drop_drop, List.append_assoc, List.append_assoc, List.append_assoc]
  congr 2
  have := (List.take_append_drop (n - vs.length) (C.drop (o + vs.length))).symm
  rw [List.drop_drop, show o + vs.length + (n - vs.length) = o + n by omega] at this
  exact this
theorem tx_lay (x : Tx) (ys : List UInt8) (h : ys.length ≤ 32) : splice x.enc 10 (bv ys) = ({ x with payload := lay x.payload 0 ys } : Tx).enc := by
  rw [splice_in x.enc 10 32 (bv ys) (by rw [length_bv]; exact h) (by rw [Tx.length_enc]; omega), Tx.payload_get, arr_lay _ _ _ (by omega), Tx.payload_set]
attribute [local go_sem ↓] execOp_build execOp_slice execOp_copy
attribute [local go_sem] build37z buildS Try.sl32 Try.cpv copyOrV_some Try.cp63 copyOr_some copyIn_some srcB_drew length_bv one_bv
def keepP (ys : List UInt8) : Vector UInt8 32 := lay (Vector.replicate 32 0) 0 ys
theorem newSend_ok (w : World) (c f d t : UInt8) (n fe : UInt64) (av : Nat) (a : Option Addr) (len cap : Nat) (ys : List UInt8) (hX : BytesAt av w a len cap ys) (h0 : len ≠ 0) (h32 : len ≤ 32) :
    Calls Try.prog 35 #[.int .u8 (w8 c), .int .u8 (w8 f), .int .u64 (w64 n), .int .u64 (w64 fe), .int .u8 (w8 d), .int .u8 (w8 t), .slice a len cap] w fun e w' => e = .returned (.tuple #[.agg (Tx.enc { Tx.zero with kind := 4, chain := c, from_ := f, nonce := n, fee := fe, to_ := t, dest := d, size := UInt8.ofNat len, payload := keepP ys }).toArray, .int .i64 0]) ∧ Ext w w' := by
  have hyl := hX.1
  have q1 : ¬ (len : Int) = 0 := by omega
  have q1b : ((len : Int) == 0) = false := by simp; omega
  have q2 : ¬ (32 : Int) < (len : Int) := by omega
  have q3 : IntKind.u8.wrap (len : Int) = w8 (UInt8.ofNat len) := by rw [IntKind.wrap_u8]; unfold w8; rw [UInt8.toNat_ofNat']; omega
  have q4 : min len 32 = len := by omega
  obtain ⟨z, hz⟩ : ∃ z, z = UInt8.ofNat len := ⟨_, rfl⟩
  rw [← hz] at q3 ⊢
  have HZ : Hid (z = UInt8.ofNat len) := hz
  clear hz
  obtain ⟨T, hT⟩ : ∃ T : Tx, T = { Tx.zero with kind := 4, chain := c, from_ := f, nonce := n, fee := fe, to_ := t, dest := d, size := z } := ⟨_, rfl⟩
  have HX : Hid (BytesAt av w a len cap ys) := hX
  clear hX
  go_enter Try.func35, Try.ntmps35
  go_upto_region 6 with fail
  refine wp_world (fun W1 => blk W1 (w.heap.size + 1) = some T.enc ∧ free W1 (w.heap.size + 1) = true ∧ blk W1 w.heap.size = some Tx.zero.enc ∧ free W1 w.heap.size = true ∧ Hid (Ext w W1)) ⟨?_, ?_, ?_, ?_, (((Ext.refl w).alloc _).alloc _).put_new _ _ (by omega)⟩ ?_
  · rw [blk_put, if_pos rfl, blk_alloc, if_pos (by rw [World.size_alloc]), hT]; rfl
  · rw [free_put, free_alloc, if_pos (by rw [World.size_alloc])]
  · rw [blk_put, if_neg (by omega), blk_alloc, if_neg (by rw [World.size_alloc]; omega), blk_alloc, if_pos rfl]
  · rw [free_put, free_alloc, if_neg (by rw [World.size_alloc]; omega), free_alloc, if_pos rfl]
  obtain ⟨b0, hb0⟩ : ∃ b0, b0 = w.heap.size := ⟨_, rfl⟩
  obtain ⟨b1, hb1⟩ : ∃ b1, b1 = w.heap.size + 1 := ⟨_, rfl⟩
  rw [← hb1, ← hb0]
  have n1 : ¬ b0 = b1 := by omega
  have n2 : ¬ b1 = b0 := by omega
  have HB : Hid (b0 = w.heap.size ∧ b1 = w.heap.size + 1) := ⟨hb0, hb1⟩
  clear hb0 hb1
  rintro W1 ⟨h1, hf1, h0', hf0, HE⟩
  have hs := ((HX.out.mono fun b hb _ => HE.out.blk hb : BytesAt av W1 a len cap ys)).src (Nat.le_refl len)
  rw [List.take_of_length_le (by omega)] at hs
  have hlay : splice T.enc 10 (bv ys) = ({ T with payload := lay T.payload 0 ys } : Tx).enc := tx_lay T ys (by omega)
  have hTp : T.payload = Vector.replicate 32 0 := by rw [hT]; rfl
  have HT : Hid (T = { Tx.zero with kind := 4, chain := c, from_ := f, nonce := n, fee := fe, to_ := t, dest := d, size := z }) := hT
  have hTl : T.enc.length = 83 := Tx.length_enc T
  have hyl2 : 10 + ys.length ≤ 83 := by omega
  obtain ⟨T2, hT2⟩ : ∃ T2 : Tx, T2 = { T with payload := lay T.payload 0 ys } := ⟨_, rfl⟩
  rw [← hT2] at hlay
  have HT2 : Hid (T2 = { T with payload := lay T.payload 0 ys }) := hT2
  have HTP : Hid (T.payload = Vector.replicate 32 0) := hTp
  clear hT hT2 hTp
  go_wp2_with fail
  refine ret_cell_tmp (C := T2.enc) rfl rfl rfl ?_ (by kernel_rfl) (by rw [Tx.length_enc]; kernel_rfl) rfl ?_
  · simp only [blk_put, n1, n2, if_true, if_false, h0', h1]
    first | rfl | (rw [hlay]; rfl)
  · refine ⟨?_, ?_⟩
    · rw [HT2.out, HTP.out, HT.out]
      rfl
    · have hb := HB.out
      exact (HE.out.put_new _ _ (by omega)).put_new _ _ (by omega)
theorem newSend_no (w : World) (c f d t : UInt8) (n fe : UInt64) (a : Option Addr) (cap : Nat) :
    Calls Try.prog 35 #[.int .u8 (w8 c), .int .u8 (w8 f), .int .u64 (w64 n), .int .u64 (w64 fe), .int .u8 (w8 d), .int .u8 (w8 t), .slice a 0 cap] w fun e w' => e = .returned (.tuple #[.agg Tx.zero.enc.toArray, .int .i64 12]) ∧ Ext w w' := by
  go_enter Try.func35, Try.ntmps35
  go_wp2_with fail
  refine ret_cell_tmp (C := Tx.zero.enc) rfl rfl rfl ?_ (by kernel_rfl) (by rw [Tx.length_enc]; kernel_rfl) rfl ?_
  · first | (rw [blk_alloc, if_pos rfl]; done) | (rw [blk_put, if_pos rfl, blk_alloc, if_pos rfl]; rfl)
  · exact ⟨rfl, by first | exact (Ext.refl _).alloc _ | exact ((Ext.refl _).alloc _).put_new _ _ (Nat.le_refl _)⟩
end Go.Proofs.Qxb6500786a
