import Derived.Test.Qxb6500786aStr
import Derived.StillTailTactics
import Derived.Deep.QuietTactic
import Derived.BigQuiet
import Derived.Deep.RegionHeld
import Derived.Deep.CutRange
import Derived.Laws.ResultCell
import Derived.Laws.Rows
import Derived.DeepKeys
import Derived.DataBytes
import Derived.Laws.StructEq
import Derived.Laws.AppendOwn
set_option linter.unusedSimpArgs false
set_option linter.unusedVariables false
namespace Go.Proofs.Qxb6500786a
open Go.RowKit Go.Blk
attribute [local go_sem ↓] execOp_load execOp_store execOp_alloc
attribute [local go_sem] Try.ld33 Try.st33 Try.ld24 Try.st24 Try.ld29 Try.st29 Try.ld30 Try.st30 Try.ld31 Try.st31 Try.ld5 Try.st5 Try.ld28 Try.st28 Try.ld27 Try.st27 Try.ld26 Try.st26 Try.ld2 Try.st2 Try.ld3 Try.st3 Try.ld4 Try.st4 Try.ld9 Try.st9 Try.ld12 Try.st12 Try.ld21 Try.st21 Try.ld22 Try.st22 Try.ld41 Try.st41 Try.ld50 Try.st50 Try.ld55 Try.st55 Try.ld63 Try.st63 Try.ld78 Try.st78 Try.ld87 Try.st87 Try.ld91 Try.st91 Try.ld32 Try.st32 Try.ld47 Try.st47 Try.ld52 Try.st52 Try.ld71 Try.st71 Try.ld35 Try.st35 Try.ld37 Try.st37 Try.ld39 Try.st39 Try.al32 Try.al47 Try.al52 Try.al71 Try.al35 Try.al37 Try.al39
attribute [local go_sem] Message.length_enc Message.ok_enc Message.all_get Message.all_set Message.kind_get Message.kind_set Message.from__get Message.from__set Message.to__get Message.to__set Message.sender_get Message.sender_set Message.receiver_get Message.receiver_set Message.seq_get Message.seq_set Message.token_get Message.token_set Message.amount_get Message.amount_set Message.size_get Message.size_set Message.payload_get Message.payload_set Tx.length_enc Tx.ok_enc Tx.all_get Tx.all_set Tx.kind_get Tx.kind_set Tx.chain_get Tx.chain_set Tx.from__get Tx.from__set Tx.nonce_get Tx.nonce_set Tx.fee_get Tx.fee_set Tx.to__get Tx.to__set Tx.dest_get Tx.dest_set Tx.token_get Tx.token_set Tx.amount_get Tx.amount_set Tx.size_get Tx.size_set Tx.payload_get Tx.payload_set Tx.msg_get Tx.msg_set Tx.msg_kind_get Tx.msg_kind_set Tx.msg_from__get Tx.msg_from__set Tx.msg_to__get Tx.msg_to__set Tx.msg_sender_get Tx.msg_sender_set Tx.msg_receiver_get Tx.msg_receiver_set Tx.msg_seq_get Tx.msg_seq_set Tx.msg_token_get Tx.msg_token_set Tx.msg_amount_get Tx.msg_amount_set Tx.msg_size_get Tx.msg_size_set Tx.msg_payload_get Tx.msg_payload_set GOp.length_enc GOp.ok_enc GOp.all_get GOp.all_set GOp.kind_get GOp.kind_set GOp.tx_get GOp.tx_set GOp.txs_get GOp.txs_set GOp.gas_get GOp.gas_set GOp.acct_get GOp.acct_set GOp.token_get GOp.token_set GOp.chain_get GOp.chain_set GOp.seq_get GOp.seq_set GOp.tx_kind_get GOp.tx_kind_set GOp.tx_chain_get GOp.tx_chain_set GOp.tx_from__get GOp.tx_from__set GOp.tx_nonce_get GOp.tx_nonce_set GOp.tx_fee_get GOp.tx_fee_set GOp.tx_to__get GOp.tx_to__set GOp.tx_dest_get GOp.tx_dest_set GOp.tx_token_get GOp.tx_token_set GOp.tx_amount_get GOp.tx_amount_set GOp.tx_size_get GOp.tx_size_set GOp.tx_payload_get GOp.tx_payload_set GOp.tx_msg_get GOp.tx_msg_set GOp.tx_msg_kind_get GOp.tx_msg_kind_set GOp.tx_msg_from__get GOp.tx_msg_from__set GOp.tx_msg_to__get GOp.tx_msg_to__set GOp.tx_msg_sender_get GOp.tx_msg_sender_set GOp.tx_msg_receiver_get GOp.tx_msg_receiver_set GOp.tx_msg_seq_get GOp.tx_msg_seq_set GOp.tx_msg_token_get GOp.tx_msg_token_set GOp.tx_msg_amount_get GOp.tx_msg_amount_set GOp.tx_msg_size_get GOp.tx_msg_size_set GOp.tx_msg_payload_get GOp.tx_msg_payload_set
attribute [local go_sem] size_put size_ext blk_put free_put blk_alloc free_alloc blk_drew free_drew blk_ext free_ext lookOr_some putOr_some segAt_some cellAt_some storeIn_some put_put put_alloc_new length_arr ok_arr_u8 ok_arr_u32 ok_arr_u64 ok_arr_i64 ok_arr_sl cellsV_agg cellsV_int cellsV_bool cellsV_string cellsV_pointer cellsV_slice cellsV_sl ok_int ok_bool ok_string ok_pointer ok_slice ok_sl toList_arr seg_arr set_arr nth_splice nth_splice0 seg_splice seg_splice0 splice_splice splice_splice0 length_splice_if
attribute [local go_sem ↓] execOp_box
attribute [local go_sem] box_run nth_arr_u8 put_arr_u8
def addS (u v : Value) : Sem Next := do pure (.value (← binOp .add 9 u v))
theorem execOp_add9 (a : Act) (dst : Option Tmp) (x y : Operand) (ty : TypeId) (pos : String) (after : Array Edge) (guard : Option (Nat × Bool)) :
    execOp a.eval { dst, op := .binOp .add 9 x y 9, type := ty, pos, after, guard } = addS (a.eval x) (a.eval y) := rfl
def room (a b : ByteArray) : Bool := decide (a.size + b.size ≤ 9223372036854775807)
theorem add_run (w : World) (a b : ByteArray) (h : room a b = true) : (addS (.string a) (.string b)).run Try.prog w = .ok (.value (.string (a ++ b))) w := by
  unfold addS
  rw [Sem.run_bind]
  have h' := run_string_add_sum (P := Try.prog) w a b (of_decide_eq_true h)
  simp only [binOp]
  rw [h']
  rfl
theorem room_of {a b : ByteArray} {m n : Nat} (ha : a.size ≤ m) (hb : b.size ≤ n) (h : m + n ≤ 1000000) : room a b = true := decide_eq_true (by omega)
theorem size_cat {a b : ByteArray} {m n : Nat} (ha : a.size ≤ m) (hb : b.size ≤ n) : (a ++ b).size ≤ m + n := by rw [ByteArray.size_append]; omega
theorem digs_length : ∀ (k n : Nat), n < 10 ^ k → (digs n).length ≤ k
  | 0, n, h => by
    have : n = 0 := by simpa using h
    subst this
    unfold digs; simp
  | k + 1, n, h => by
    unfold digs
    split
    · simp
    · have := digs_length k (n / 10) (by rw [Nat.pow_succ] at h; omega)
      simp; omega
theorem size_itoa {n : Nat} (h : n < 18446744073709551616) : (itoaB n).size ≤ 20 := by
  have := digs_length 20 n (by omega)
  show (itoaF n).toArray.size ≤ 20
  unfold itoaF
  split
  · simp
  · simpa using this
attribute [local go_sem ↓] execOp_add9
attribute [local go_sem] add_run
def chainB (n : Nat) : ByteArray :=
  if n = 0 then ⟨#[110, 111, 110, 101]⟩ else
  if n = 1 then ⟨#[65]⟩ else
  if n = 2 then ⟨#[66]⟩ else
  if n = 3 then ⟨#[76, 49]⟩ else
  (⟨#[99, 104, 97, 105, 110, 63]⟩ : ByteArray) ++ itoaB n
theorem size_chain {n : Nat} (h : n < 256) : (chainB n).size ≤ 30 := by
  unfold chainB
  by_cases k0 : n = 0
  · subst k0; decide
  by_cases k1 : n = 1
  · subst k1; decide
  by_cases k2 : n = 2
  · subst k2; decide
  by_cases k3 : n = 3
  · subst k3; decide
  rw [if_neg k0, if_neg k1, if_neg k2, if_neg k3]
  exact Nat.le_trans (size_cat (m := 6) (n := 20) (by decide) (size_itoa (by omega))) (by decide)
set_option maxRecDepth 20000 in
theorem chain_any (w : World) (n : Nat) (hn : n < 256) : Calls Try.prog 43 #[.int .u8 (n : Nat)] w fun e w' => e = .returned (.string (chainB n)) ∧ Ext w w' := by
  by_cases k0 : n = 0
  · subst k0
    go_enter Try.func43, Try.ntmps43
    go_wp2_with fail
    go_ret
    exact ⟨rfl, Ext.refl _⟩
  by_cases k1 : n = 1
  · subst k1
    go_enter Try.func43, Try.ntmps43
    go_wp2_with fail
    go_ret
    exact ⟨rfl, Ext.refl _⟩
  by_cases k2 : n = 2
  · subst k2
    go_enter Try.func43, Try.ntmps43
    go_wp2_with fail
    go_ret
    exact ⟨rfl, Ext.refl _⟩
  by_cases k3 : n = 3
  · subst k3
    go_enter Try.func43, Try.ntmps43
    go_wp2_with fail
    go_ret
    exact ⟨rfl, Ext.refl _⟩
  have j0 : ¬ (n : Int) = 0 := by omega
  have j1 : ¬ (n : Int) = 1 := by omega
  have j2 : ¬ (n : Int) = 2 := by omega
  have j3 : ¬ (n : Int) = 3 := by omega
  have hroom : room (⟨#[99, 104, 97, 105, 110, 63]⟩ : ByteArray) (itoaB n) = true := room_of (m := 10) (by decide) (size_itoa (by omega)) (by decide)
  have HB : Hid (chainB n = (⟨#[99, 104, 97, 105, 110, 63]⟩ : ByteArray) ++ itoaB n) := by show _ = _; unfold chainB; rw [if_neg k0, if_neg k1, if_neg k2, if_neg k3]
  go_enter Try.func43, Try.ntmps43
  go_wp2_with fail
  refine (itoa_any w n (by omega)).mono ?_
  rintro e w2 ⟨rfl, he⟩
  go_wp2_with fail
  go_ret
  exact ⟨by rw [HB.out]; rfl, he⟩
def kindB (n : Nat) : ByteArray :=
  if n = 1 then ⟨#[116, 114, 97, 110, 115, 102, 101, 114]⟩ else
  if n = 2 then ⟨#[98, 117, 114, 110]⟩ else
  if n = 3 then ⟨#[109, 105, 110, 116]⟩ else
  if n = 4 then ⟨#[115, 101, 110, 100]⟩ else
  if n = 5 then ⟨#[99, 111, 110, 115, 117, 109, 101]⟩ else
  (⟨#[107, 105, 110, 100, 63]⟩ : ByteArray) ++ itoaB n
theorem size_kind {n : Nat} (h : n < 256) : (kindB n).size ≤ 30 := by
  unfold kindB
  by_cases k1 : n = 1
  · subst k1; decide
  by_cases k2 : n = 2
  · subst k2; decide
  by_cases k3 : n = 3
  · subst k3; decide
  by_cases k4 : n = 4
  · subst k4; decide
  by_cases k5 : n = 5
  · subst k5; decide
  rw [if_neg k1, if_neg k2, if_neg k3, if_neg k4, if_neg k5]
  exact Nat.le_trans (size_cat (m := 5) (n := 20) (by decide) (size_itoa (by omega))) (by decide)
set_option maxRecDepth 20000 in
theorem kind_any (w : World) (n : Nat) (hn : n < 256) : Calls Try.prog 27 #[.int .u8 (n : Nat)] w fun e w' => e = .returned (.string (kindB n)) ∧ Ext w w' := by
  by_cases k1 : n = 1
  · subst k1
    go_enter Try.func27, Try.ntmps27
    go_wp2_with fail
    go_ret
    exact ⟨rfl, Ext.refl _⟩
  by_cases k2 : n = 2
  · subst k2
    go_enter Try.func27, Try.ntmps27
    go_wp2_with fail
    go_ret
    exact ⟨rfl, Ext.refl _⟩
  by_cases k3 : n = 3
  · subst k3
    go_enter Try.func27, Try.ntmps27
    go_wp2_with fail
    go_ret
    exact ⟨rfl, Ext.refl _⟩
  by_cases k4 : n = 4
  · subst k4
    go_enter Try.func27, Try.ntmps27
    go_wp2_with fail
    go_ret
    exact ⟨rfl, Ext.refl _⟩
  by_cases k5 : n = 5
  · subst k5
    go_enter Try.func27, Try.ntmps27
    go_wp2_with fail
    go_ret
    exact ⟨rfl, Ext.refl _⟩
  have j1 : ¬ (n : Int) = 1 := by omega
  have j2 : ¬ (n : Int) = 2 := by omega
  have j3 : ¬ (n : Int) = 3 := by omega
  have j4 : ¬ (n : Int) = 4 := by omega
  have j5 : ¬ (n : Int) = 5 := by omega
  have hroom : room (⟨#[107, 105, 110, 100, 63]⟩ : ByteArray) (itoaB n) = true := room_of (m := 10) (by decide) (size_itoa (by omega)) (by decide)
  have HB : Hid (kindB n = (⟨#[107, 105, 110, 100, 63]⟩ : ByteArray) ++ itoaB n) := by show _ = _; unfold kindB; rw [if_neg k1, if_neg k2, if_neg k3, if_neg k4, if_neg k5]
  go_enter Try.func27, Try.ntmps27
  go_wp2_with fail
  refine (itoa_any w n (by omega)).mono ?_
  rintro e w2 ⟨rfl, he⟩
  go_wp2_with fail
  go_ret
  exact ⟨by rw [HB.out]; rfl, he⟩
def msgKindB (n : Nat) : ByteArray :=
  if n = 0 then ⟨#[110, 111, 110, 101]⟩ else
  if n = 1 then ⟨#[112, 108, 97, 105, 110]⟩ else
  if n = 2 then ⟨#[98, 117, 114, 110]⟩ else
  (⟨#[109, 115, 103, 63]⟩ : ByteArray) ++ itoaB n
theorem size_msgKind {n : Nat} (h : n < 256) : (msgKindB n).size ≤ 30 := by
  unfold msgKindB
  by_cases k0 : n = 0
  · subst k0; decide
  by_cases k1 : n = 1
  · subst k1; decide
  by_cases k2 : n = 2
  · subst k2; decide
  rw [if_neg k0, if_neg k1, if_neg k2]
  exact Nat.le_trans (size_cat (m := 4) (n := 20) (by decide) (size_itoa (by omega))) (by decide)
set_option maxRecDepth 20000 in
theorem msgKind_any (w : World) (n : Nat) (hn : n < 256) : Calls Try.prog 31 #[.int .u8 (n : Nat)] w fun e w' => e = .returned (.string (msgKindB n)) ∧ Ext w w' := by
  by_cases k0 : n = 0
  · subst k0
    go_enter Try.func31, Try.ntmps31
    go_wp2_with fail
    go_ret
    exact ⟨rfl, Ext.refl _⟩
  by_cases k1 : n = 1
  · subst k1
    go_enter Try.func31, Try.ntmps31
    go_wp2_with fail
    go_ret
    exact ⟨rfl, Ext.refl _⟩
  by_cases k2 : n = 2
  · subst k2
    go_enter Try.func31, Try.ntmps31
    go_wp2_with fail
    go_ret
    exact ⟨rfl, Ext.refl _⟩
  have j0 : ¬ (n : Int) = 0 := by omega
  have j1 : ¬ (n : Int) = 1 := by omega
  have j2 : ¬ (n : Int) = 2 := by omega
  have hroom : room (⟨#[109, 115, 103, 63]⟩ : ByteArray) (itoaB n) = true := room_of (m := 10) (by decide) (size_itoa (by omega)) (by decide)
  have HB : Hid (msgKindB n = (⟨#[109, 115, 103, 63]⟩ : ByteArray) ++ itoaB n) := by show _ = _; unfold msgKindB; rw [if_neg k0, if_neg k1, if_neg k2]
  go_enter Try.func31, Try.ntmps31
  go_wp2_with fail
  refine (itoa_any w n (by omega)).mono ?_
  rintro e w2 ⟨rfl, he⟩
  go_wp2_with fail
  go_ret
  exact ⟨by rw [HB.out]; rfl, he⟩
def partyB (c a : Nat) : ByteArray := chainB c ++ (⟨#[35]⟩ : ByteArray) ++ itoaB a
def valueB (t a : Nat) : ByteArray := itoaB a ++ (⟨#[32, 111, 102, 32, 116, 111, 107, 101, 110, 32]⟩ : ByteArray) ++ itoaB t
theorem party_any (w : World) (c a : Nat) (hc : c < 256) (ha : a < 256) : Calls Try.prog 28 #[.int .u8 (c : Nat), .int .u8 (a : Nat)] w fun e w' => e = .returned (.string (partyB c a)) ∧ Ext w w' := by
  have r1 : room (chainB c) (⟨#[35]⟩ : ByteArray) = true := room_of (size_chain hc) (n := 1) (by decide) (by decide)
  have r2 : room (chainB c ++ (⟨#[35]⟩ : ByteArray)) (itoaB a) = true := room_of (size_cat (size_chain hc) (n := 1) (by decide)) (size_itoa (by omega)) (by decide)
  go_enter Try.func28, Try.ntmps28
  go_wp2_with fail
  refine (chain_any w c hc).mono ?_
  rintro e w2 ⟨rfl, he⟩
  have HE : Hid (Ext w w2) := he
  clear he
  go_wp2_with fail
  refine (itoa_any w2 a (by omega)).mono ?_
  rintro e w3 ⟨rfl, he⟩
  go_wp2_with fail
  go_ret
  exact ⟨rfl, HE.out.trans he⟩
theorem value_any (w : World) (t a : Nat) (ht : t < 256) (ha : a < 18446744073709551616) : Calls Try.prog 29 #[.int .u8 (t : Nat), .int .u64 (a : Nat)] w fun e w' => e = .returned (.string (valueB t a)) ∧ Ext w w' := by
  have r1 : room (itoaB a) (⟨#[32, 111, 102, 32, 116, 111, 107, 101, 110, 32]⟩ : ByteArray) = true := room_of (size_itoa ha) (n := 10) (by decide) (by decide)
  have r2 : room (itoaB a ++ (⟨#[32, 111, 102, 32, 116, 111, 107, 101, 110, 32]⟩ : ByteArray)) (itoaB t) = true := room_of (size_cat (size_itoa ha) (n := 10) (by decide)) (size_itoa (by omega)) (by decide)
  go_enter Try.func29, Try.ntmps29
  go_wp2_with fail
  refine (itoa_any w a ha).mono ?_
  rintro e w2 ⟨rfl, he⟩
  have HE : Hid (Ext w w2) := he
  clear he
  go_wp2_with fail
  refine (itoa_any w2 t (by omega)).mono ?_
  rintro e w3 ⟨rfl, he⟩
  go_wp2_with fail
  go_ret
  exact ⟨rfl, HE.out.trans he⟩
theorem size_party {c a : Nat} (hc : c < 256) (ha : a < 256) : (partyB c a).size ≤ 51 := Nat.le_trans (size_cat (size_cat (size_chain hc) (n := 1) (by decide)) (size_itoa (by omega))) (by decide)
theorem size_value {t a : Nat} (ht : t < 256) (ha : a < 18446744073709551616) : (valueB t a).size ≤ 50 := Nat.le_trans (size_cat (size_cat (size_itoa ha) (n := 10) (by decide)) (size_itoa (by omega))) (by decide)
end Go.Proofs.Qxb6500786a
