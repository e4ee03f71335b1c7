import Derived.Test.Qxb6500786aCpy
import Derived.StillTailTactics
import Derived.Deep.QuietTactic
import Derived.BigQuiet
import Derived.Deep.RegionHeld
import Derived.Deep.CutRange
import Derived.Laws.ResultCell
import Derived.Laws.Rows
import Derived.DeepKeys
import Derived.DataBytes
import Derived.Laws.StructEq
import Derived.Laws.AppendOwn
set_option linter.unusedSimpArgs false
set_option linter.unusedVariables false
namespace Go.Proofs.Qxb6500786a
open Go.RowKit Go.Blk
attribute [local go_sem ↓] execOp_load execOp_store execOp_alloc
attribute [local go_sem] Try.ld33 Try.st33 Try.ld24 Try.st24 Try.ld29 Try.st29 Try.ld30 Try.st30 Try.ld31 Try.st31 Try.ld5 Try.st5 Try.ld28 Try.st28 Try.ld27 Try.st27 Try.ld26 Try.st26 Try.ld2 Try.st2 Try.ld3 Try.st3 Try.ld4 Try.st4 Try.ld9 Try.st9 Try.ld12 Try.st12 Try.ld21 Try.st21 Try.ld22 Try.st22 Try.ld41 Try.st41 Try.ld50 Try.st50 Try.ld55 Try.st55 Try.ld63 Try.st63 Try.ld78 Try.st78 Try.ld87 Try.st87 Try.ld91 Try.st91 Try.ld32 Try.st32 Try.ld47 Try.st47 Try.ld52 Try.st52 Try.ld71 Try.st71 Try.ld35 Try.st35 Try.ld37 Try.st37 Try.ld39 Try.st39 Try.al32 Try.al47 Try.al52 Try.al71 Try.al35 Try.al37 Try.al39
attribute [local go_sem] Message.length_enc Message.ok_enc Message.all_get Message.all_set Message.kind_get Message.kind_set Message.from__get Message.from__set Message.to__get Message.to__set Message.sender_get Message.sender_set Message.receiver_get Message.receiver_set Message.seq_get Message.seq_set Message.token_get Message.token_set Message.amount_get Message.amount_set Message.size_get Message.size_set Message.payload_get Message.payload_set Tx.length_enc Tx.ok_enc Tx.all_get Tx.all_set Tx.kind_get Tx.kind_set Tx.chain_get Tx.chain_set Tx.from__get Tx.from__set Tx.nonce_get Tx.nonce_set Tx.fee_get Tx.fee_set Tx.to__get Tx.to__set Tx.dest_get Tx.dest_set Tx.token_get Tx.token_set Tx.amount_get Tx.amount_set Tx.size_get Tx.size_set Tx.payload_get Tx.payload_set Tx.msg_get Tx.msg_set Tx.msg_kind_get Tx.msg_kind_set Tx.msg_from__get Tx.msg_from__set Tx.msg_to__get Tx.msg_to__set Tx.msg_sender_get Tx.msg_sender_set Tx.msg_receiver_get Tx.msg_receiver_set Tx.msg_seq_get Tx.msg_seq_set Tx.msg_token_get Tx.msg_token_set Tx.msg_amount_get Tx.msg_amount_set Tx.msg_size_get Tx.msg_size_set Tx.msg_payload_get Tx.msg_payload_set GOp.length_enc GOp.ok_enc GOp.all_get GOp.all_set GOp.kind_get GOp.kind_set GOp.tx_get GOp.tx_set GOp.txs_get GOp.txs_set GOp.gas_get GOp.gas_set GOp.acct_get GOp.acct_set GOp.token_get GOp.token_set GOp.chain_get GOp.chain_set GOp.seq_get GOp.seq_set GOp.tx_kind_get GOp.tx_kind_set GOp.tx_chain_get GOp.tx_chain_set GOp.tx_from__get GOp.tx_from__set GOp.tx_nonce_get GOp.tx_nonce_set GOp.tx_fee_get GOp.tx_fee_set GOp.tx_to__get GOp.tx_to__set GOp.tx_dest_get GOp.tx_dest_set GOp.tx_token_get GOp.tx_token_set GOp.tx_amount_get GOp.tx_amount_set GOp.tx_size_get GOp.tx_size_set GOp.tx_payload_get GOp.tx_payload_set GOp.tx_msg_get GOp.tx_msg_set GOp.tx_msg_kind_get GOp.tx_msg_kind_set GOp.tx_msg_from__get GOp.tx_msg_from__set GOp.tx_msg_to__get GOp.tx_msg_to__set GOp.tx_msg_sender_get GOp.tx_msg_sender_set GOp.tx_msg_receiver_get GOp.tx_msg_receiver_set GOp.tx_msg_seq_get GOp.tx_msg_seq_set GOp.tx_msg_token_get GOp.tx_msg_token_set GOp.tx_msg_amount_get GOp.tx_msg_amount_set GOp.tx_msg_size_get GOp.tx_msg_size_set GOp.tx_msg_payload_get GOp.tx_msg_payload_set
attribute [local go_sem] size_put size_ext blk_put free_put blk_alloc free_alloc blk_drew free_drew blk_ext free_ext lookOr_some putOr_some segAt_some cellAt_some storeIn_some put_put put_alloc_new length_arr ok_arr_u8 ok_arr_u32 ok_arr_u64 ok_arr_i64 ok_arr_sl cellsV_agg cellsV_int cellsV_bool cellsV_string cellsV_pointer cellsV_slice cellsV_sl ok_int ok_bool ok_string ok_pointer ok_slice ok_sl toList_arr seg_arr set_arr nth_splice nth_splice0 seg_splice seg_splice0 splice_splice splice_splice0 length_splice_if
attribute [local go_sem ↓] execOp_box
attribute [local go_sem] box_run nth_arr_u8 put_arr_u8
theorem Try.mx : True := trivial
def indexOp (t : TypeId) (x i : Value) : Sem Next := do pure (.value (← Instr.index t x i))
theorem execOp_index (a : Act) (dst : Option Tmp) (x i : Operand) (ty : TypeId) (pos : String) (after : Array Edge) (guard : Option (Nat × Bool)) :
    execOp a.eval { dst, op := .index 9 x i, type := ty, pos, after, guard } = indexOp 9 (a.eval x) (a.eval i) := rfl
def hexL : List UInt8 := [48, 49, 50, 51, 52, 53, 54, 55, 56, 57, 97, 98, 99, 100, 101, 102]
def hexD (n : Nat) : UInt8 := hexL.getD n 0
theorem index_hex (w : World) (n : Nat) (h : n < 16) : (indexOp 9 (.string ⟨#[48, 49, 50, 51, 52, 53, 54, 55, 56, 57, 97, 98, 99, 100, 101, 102]⟩) (.int .u8 (n : Int))).run Try.prog w = .ok (.value (.int .u8 (w8 (hexD n)))) w := by
  have hu : Try.prog.underlying 9 = some .string := Try.underlying9
  have h0 : (0 : Int) ≤ (n : Int) := by omega
  have hs : (⟨#[48, 49, 50, 51, 52, 53, 54, 55, 56, 57, 97, 98, 99, 100, 101, 102]⟩ : ByteArray)[n]? = some (hexD n) := by
    have : n = 0 ∨ n = 1 ∨ n = 2 ∨ n = 3 ∨ n = 4 ∨ n = 5 ∨ n = 6 ∨ n = 7 ∨ n = 8 ∨ n = 9 ∨ n = 10 ∨ n = 11 ∨ n = 12 ∨ n = 13 ∨ n = 14 ∨ n = 15 := by omega
    rcases this with rfl | rfl | rfl | rfl | rfl | rfl | rfl | rfl | rfl | rfl | rfl | rfl | rfl | rfl | rfl | rfl <;> rfl
  simp [indexOp, Instr.index, asIntOf, run_underlying hu, h0, hs, w8]
def convOp (s d : TypeId) (v : Value) : Sem Next := do pure (.value (← convert s d v))
theorem execOp_convert (a : Act) (dst : Option Tmp) (x : Operand) (ty : TypeId) (pos : String) (after : Array Edge) (guard : Option (Nat × Bool)) :
    execOp a.eval { dst, op := .convert 63 9 x, type := ty, pos, after, guard } = convOp 63 9 (a.eval x) := rfl
theorem conv_at (w : World) (b o l c : Nat) (xs : List UInt8) (hl : xs.length = l) (C : List Value) (hb : blk w b = some C) (hs : seg C o l = bv xs) :
    (convOp 63 9 (.slice (some ⟨b, o, none⟩) l c)).run Try.prog w = .ok (.value (.string ⟨xs.toArray⟩)) w := by
  have hc := run_convert_bytes_arg (P := Try.prog) w 63 5 Try.underlying63 Try.underlying5 b o l c (xs.map fun x => (x.toNat : Int)) (by simp [hl]) (by
    intro i hi
    rw [cell_blk hb]
    have hi' : i < xs.length := by omega
    have h1 : (seg C o l)[i]? = (bv xs)[i]? := by rw [hs]
    unfold seg at h1
    rw [List.getElem?_take, if_pos (by omega), List.getElem?_drop] at h1
    rw [h1]
    simp [bv, u8v, w8, List.getElem?_map, hi']) 9 Try.underlying9
  unfold convOp
  rw [Sem.run_bind, hc]
  simp [strOfNums, Function.comp_def]
theorem drop_set8 (l : List UInt8) (m : Nat) (c : UInt8) (h : m < l.length) : (l.set m c).drop m = c :: l.drop (m + 1) := by
  rw [List.drop_eq_getElem_cons (by simpa using h), List.getElem_set_self, List.drop_set_of_lt (by omega)]
def digs (n : Nat) : List UInt8 := if h : n = 0 then [] else digs (n / 10) ++ [UInt8.ofNat (48 + n % 10)]
termination_by n
decreasing_by omega
def itoaF (n : Nat) : List UInt8 := if n = 0 then [48] else digs n
def itoaB (n : Nat) : ByteArray := ⟨(itoaF n).toArray⟩
theorem Try.sl71lo (w : World) (b o l : Nat) (h : l ≤ 20) : (sliceOp 71 (.pointer (some ⟨b, o, none⟩)) (some (.int .i64 (l : Int))) none none).run Try.prog w = .ok (.value (.slice (cutA (some ⟨b, o, none⟩) l 20) (20 - l) (20 - l))) w := slice_arr_lo (e := 5) (by kernel_rfl) (by kernel_rfl) w b o l h
attribute [local go_sem ↓] execOp_index execOp_convert execOp_slice
attribute [local go_sem] index_hex Try.sl71lo
set_option maxRecDepth 100000 in
theorem frame22 (f : Nat → Value) : frameN 22 f = #[f 0, f 1, f 2, f 3, f 4, f 5, f 6, f 7, f 8, f 9, f 10, f 11, f 12, f 13, f 14, f 15, f 16, f 17, f 18, f 19, f 20, f 21] := by kernel_rfl
def itI (w : World) (N : Nat) (f : Nat → Value) (W : World) : Prop :=
  f 3 = .pointer (some ⟨w.heap.size, 0, none⟩) ∧ ∃ (n k : Nat) (V : Vector UInt8 20), k ≤ 20 ∧ n ≤ N ∧ n < 10 ^ k ∧ f 0 = .int .u64 (n : Nat) ∧ f 4 = .int .i64 (k : Nat) ∧ Hid (digs n ++ V.toList.drop k = digs N) ∧ blk W w.heap.size = some (arr u8v V) ∧ free W w.heap.size = true ∧ Hid (Ext w W)
set_option maxRecDepth 20000 in
set_option maxHeartbeats 2000000 in
theorem itoa_any (w : World) (N : Nat) (hN : N < 18446744073709551616) : Calls Try.prog 14 #[.int .u64 (N : Nat)] w fun e w' => e = .returned (.string (itoaB N)) ∧ Ext w w' := by
  by_cases h0 : N = 0
  · subst h0
    go_enter Try.func14, Try.ntmps14
    go_wp2_with fail
    go_ret
    exact ⟨rfl, Ext.refl _⟩
  have h0' : ¬ (N : Int) = 0 := by omega
  go_enter Try.func14, Try.ntmps14
  go_wp2_with fail
  refine wp_loop_f 22 (itI w N) (fun f _ => (intOf (f 4)).toNat) rfl ?_ ?_
  · refine ⟨rfl, N, 20, Vector.replicate 20 0, by omega, by omega, by omega, rfl, rfl, ?_, ?_, ?_, (Ext.refl w).alloc _⟩
    · show _ = _; simp
    · rw [blk_alloc, if_pos rfl]
    · rw [free_alloc, if_pos rfl]
  intro F W hrel
  obtain ⟨h3, n, k, V, hk, hnN, hnk, hf0, h4, HD, hb, hfr, HE⟩ := hrel
  have H4 : Hid (F 4 = .int .i64 (k : Nat)) := h4
  rw [frame22, h3, hf0, h4]
  clear h3 hf0 h4
  by_cases hz : n = 0
  · subst hz
    have hdg : digs 0 = [] := by unfold digs; simp
    have hdr : V.toList.drop k = digs N := by have := HD.out; rw [hdg] at this; simpa using this
    have hdn : digs N ≠ [] := by unfold digs; rw [dif_neg h0]; simp
    have hk20 : k < 20 := by
      rcases Nat.lt_or_ge k 20 with h | h
      · exact h
      · exact absurd (by rw [← hdr]; exact List.drop_eq_nil_of_le (by simp; exact h)) hdn
    have hcut : cutA (some ⟨w.heap.size, 0, none⟩) k 20 = some ⟨w.heap.size, k, none⟩ := by unfold cutA; rw [if_neg (by omega), Option.map_some, add_addr, Nat.zero_add]
    have hcv : (convOp 63 9 (.slice (some ⟨w.heap.size, k, none⟩) (20 - k) (20 - k))).run Try.prog W = .ok (.value (.string ⟨(digs N).toArray⟩)) W := conv_at W _ k (20 - k) _ (digs N) (by rw [← hdr]; simp) _ hb (by
      unfold seg bv
      rw [← hdr, List.take_of_length_le (by rw [List.length_drop, length_arr]; omega)]
      simp [arr])
    clear hnk
    go_wp2_with fail
    go_ret
    refine ⟨?_, HE.out⟩
    unfold itoaB itoaF
    rw [if_neg h0]
    rfl
  · have hz' : (0 : Int) < (n : Int) := by omega
    obtain ⟨m, rfl⟩ : ∃ m, k = m + 1 := ⟨k - 1, by have : k ≠ 0 := by { rintro rfl; simp at hnk; omega }; omega⟩
    have hm20 : m < 20 := by omega
    obtain ⟨c, hc⟩ : ∃ c : UInt8, c = UInt8.ofNat (48 + n % 10) := ⟨_, rfl⟩
    have hn64 : n < 18446744073709551616 := by omega
    have HNK : Hid (n < 10 ^ (m + 1)) := hnk
    clear hnk
    have e1 : IntKind.i64.wrap ((m : Int) + 1 - 1) = (m : Int) := by rw [wraps_i64 _ (by omega) (by omega)]; omega
    go_wp2_with fail
    have hw8 : (48 : Int) + (n : Int) % 10 = w8 c := by
      rw [hc]; unfold w8
      rw [UInt8.toNat_ofNat']; omega
    refine ⟨rfl, rfl, ?_, ?_⟩
    · rw [hw8, show splice (arr u8v V) m [Value.int .u8 (w8 c)] = arr u8v (V.set m c hm20) from put_arr_u8 V c hm20]
      refine ⟨rfl, n / 10, m, V.set m c hm20, by omega, by omega, ?_, ?_, rfl, ?_, ?_, ?_, HE.out.put_new _ _ (by omega)⟩
      · have := HNK.out
        rw [Nat.pow_succ] at this
        omega
      · show Value.int .u64 _ = _
        simp
      · show _ = _
        have h := HD.out
        rw [digs, dif_neg hz, ← hc] at h
        rw [← h, List.append_assoc]
        congr 1
        rw [Vector.toList_set, drop_set8 _ _ _ (by simp; exact hm20)]
        rfl
      · rw [blk_put, if_pos rfl, hb, Option.map_some]
      · rw [free_put]; exact hfr
    · show (intOf (Value.int .i64 _)).toNat < (intOf (F 4)).toNat
      rw [H4.out]
      simp [intOf]
end Go.Proofs.Qxb6500786a
