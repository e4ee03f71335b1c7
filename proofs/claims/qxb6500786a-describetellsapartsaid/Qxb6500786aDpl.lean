import Derived.Test.Qxb6500786aDsx
import Derived.Test.Qxb6500786aPln
import Derived.Test.Qxb6500786aShp2
import Derived.StillTailTactics
import Derived.Deep.QuietTactic
import Derived.BigQuiet
import Derived.Deep.RegionHeld
import Derived.Deep.CutRange
import Derived.Laws.ResultCell
import Derived.Laws.Rows
import Derived.DeepKeys
import Derived.DataBytes
import Derived.Laws.StructEq
import Derived.Laws.AppendOwn
set_option linter.unusedSimpArgs false
set_option linter.unusedVariables false
namespace Go.Proofs.Qxb6500786a
open Go.RowKit Go.Blk
attribute [local go_sem ↓] execOp_load execOp_store execOp_alloc
attribute [local go_sem] Try.ld33 Try.st33 Try.ld24 Try.st24 Try.ld29 Try.st29 Try.ld30 Try.st30 Try.ld31 Try.st31 Try.ld5 Try.st5 Try.ld28 Try.st28 Try.ld27 Try.st27 Try.ld26 Try.st26 Try.ld2 Try.st2 Try.ld3 Try.st3 Try.ld4 Try.st4 Try.ld9 Try.st9 Try.ld12 Try.st12 Try.ld21 Try.st21 Try.ld22 Try.st22 Try.ld41 Try.st41 Try.ld50 Try.st50 Try.ld55 Try.st55 Try.ld63 Try.st63 Try.ld78 Try.st78 Try.ld87 Try.st87 Try.ld91 Try.st91 Try.ld32 Try.st32 Try.ld47 Try.st47 Try.ld52 Try.st52 Try.ld71 Try.st71 Try.ld35 Try.st35 Try.ld37 Try.st37 Try.ld39 Try.st39 Try.al32 Try.al47 Try.al52 Try.al71 Try.al35 Try.al37 Try.al39
attribute [local go_sem] Message.length_enc Message.ok_enc Message.all_get Message.all_set Message.kind_get Message.kind_set Message.from__get Message.from__set Message.to__get Message.to__set Message.sender_get Message.sender_set Message.receiver_get Message.receiver_set Message.seq_get Message.seq_set Message.token_get Message.token_set Message.amount_get Message.amount_set Message.size_get Message.size_set Message.payload_get Message.payload_set Tx.length_enc Tx.ok_enc Tx.all_get Tx.all_set Tx.kind_get Tx.kind_set Tx.chain_get Tx.chain_set Tx.from__get Tx.from__set Tx.nonce_get Tx.nonce_set Tx.fee_get Tx.fee_set Tx.to__get Tx.to__set Tx.dest_get Tx.dest_set Tx.token_get Tx.token_set Tx.amount_get Tx.amount_set Tx.size_get Tx.size_set Tx.payload_get Tx.payload_set Tx.msg_get Tx.msg_set Tx.msg_kind_get Tx.msg_kind_set Tx.msg_from__get Tx.msg_from__set Tx.msg_to__get Tx.msg_to__set Tx.msg_sender_get Tx.msg_sender_set Tx.msg_receiver_get Tx.msg_receiver_set Tx.msg_seq_get Tx.msg_seq_set Tx.msg_token_get Tx.msg_token_set Tx.msg_amount_get Tx.msg_amount_set Tx.msg_size_get Tx.msg_size_set Tx.msg_payload_get Tx.msg_payload_set GOp.length_enc GOp.ok_enc GOp.all_get GOp.all_set GOp.kind_get GOp.kind_set GOp.tx_get GOp.tx_set GOp.txs_get GOp.txs_set GOp.gas_get GOp.gas_set GOp.acct_get GOp.acct_set GOp.token_get GOp.token_set GOp.chain_get GOp.chain_set GOp.seq_get GOp.seq_set GOp.tx_kind_get GOp.tx_kind_set GOp.tx_chain_get GOp.tx_chain_set GOp.tx_from__get GOp.tx_from__set GOp.tx_nonce_get GOp.tx_nonce_set GOp.tx_fee_get GOp.tx_fee_set GOp.tx_to__get GOp.tx_to__set GOp.tx_dest_get GOp.tx_dest_set GOp.tx_token_get GOp.tx_token_set GOp.tx_amount_get GOp.tx_amount_set GOp.tx_size_get GOp.tx_size_set GOp.tx_payload_get GOp.tx_payload_set GOp.tx_msg_get GOp.tx_msg_set GOp.tx_msg_kind_get GOp.tx_msg_kind_set GOp.tx_msg_from__get GOp.tx_msg_from__set GOp.tx_msg_to__get GOp.tx_msg_to__set GOp.tx_msg_sender_get GOp.tx_msg_sender_set GOp.tx_msg_receiver_get GOp.tx_msg_receiver_set GOp.tx_msg_seq_get GOp.tx_msg_seq_set GOp.tx_msg_token_get GOp.tx_msg_token_set GOp.tx_msg_amount_get GOp.tx_msg_amount_set GOp.tx_msg_size_get GOp.tx_msg_size_set GOp.tx_msg_payload_get GOp.tx_msg_payload_set
attribute [local go_sem] size_put size_ext blk_put free_put blk_alloc free_alloc blk_drew free_drew blk_ext free_ext lookOr_some putOr_some segAt_some cellAt_some storeIn_some put_put put_alloc_new length_arr ok_arr_u8 ok_arr_u32 ok_arr_u64 ok_arr_i64 ok_arr_sl cellsV_agg cellsV_int cellsV_bool cellsV_string cellsV_pointer cellsV_slice cellsV_sl ok_int ok_bool ok_string ok_pointer ok_slice ok_sl toList_arr seg_arr set_arr nth_splice nth_splice0 seg_splice seg_splice0 splice_splice splice_splice0 length_splice_if
attribute [local go_sem ↓] execOp_box
attribute [local go_sem] box_run nth_arr_u8 put_arr_u8
def bl (b : ByteArray) : List UInt8 := b.data.toList
theorem bl_append (a b : ByteArray) : bl (a ++ b) = bl a ++ bl b := by simp [bl, ByteArray.data_append]
theorem bl_mk (l : List UInt8) : bl ⟨l.toArray⟩ = l := by simp [bl]
theorem bl_inj {a b : ByteArray} (h : bl a = bl b) : a = b := ByteArray.ext (Array.toList_inj.1 h)
theorem bl_itoa (n : Nat) : bl (itoaB n) = itoaF n := bl_mk _
theorem bl_hex (xs : List UInt8) : bl (hexB xs) = hexF xs := bl_mk _
theorem cut_at {d : UInt8} : ∀ {u u' s s' : List UInt8}, d ∉ u → d ∉ u' → u ++ d :: s = u' ++ d :: s' → u = u' ∧ s = s'
  | [], [], s, s', _, _, h => ⟨rfl, by simpa using h⟩
  | [], x :: u', s, s', _, h', h => by
    simp only [List.nil_append, List.cons_append, List.cons.injEq] at h
    exact absurd (by rw [h.1]; exact List.mem_cons_self) h'
  | x :: u, [], s, s', h0, _, h => by
    simp only [List.nil_append, List.cons_append, List.cons.injEq] at h
    exact absurd (by rw [h.1]; exact List.mem_cons_self) h0
  | x :: u, y :: u', s, s', h0, h', h => by
    simp only [List.cons_append, List.cons.injEq] at h
    obtain ⟨e1, e2⟩ := cut_at (fun q => h0 (List.mem_cons_of_mem _ q)) (fun q => h' (List.mem_cons_of_mem _ q)) h.2
    exact ⟨by rw [h.1, e1], e2⟩
def valD (l : List UInt8) : Nat := l.foldl (fun a d => a * 10 + (d.toNat - 48)) 0
theorem val_digs (n : Nat) : valD (digs n) = n := by
  induction n using Nat.strongRecOn with
  | ind n ih =>
    unfold digs
    split
    · rename_i h; rw [h]; rfl
    · rename_i h
      have h1 := ih (n / 10) (by omega)
      unfold valD at h1 ⊢
      rw [List.foldl_append, h1]
      simp only [List.foldl_cons, List.foldl_nil, UInt8.toNat_ofNat']
      omega
theorem val_itoa (n : Nat) : valD (itoaF n) = n := by
  unfold itoaF
  split
  · rename_i h; rw [h]; rfl
  · exact val_digs n
theorem itoa_inj {m n : Nat} (h : itoaF m = itoaF n) : m = n := by rw [← val_itoa m, h, val_itoa]
theorem digs_digit (n : Nat) : ∀ d ∈ digs n, 48 ≤ d.toNat ∧ d.toNat ≤ 57 := by
  induction n using Nat.strongRecOn with
  | ind n ih =>
    unfold digs
    split
    · intro d hd; simp at hd
    · intro d hd
      rcases List.mem_append.1 hd with h | h
      · exact ih (n / 10) (by omega) d h
      · have := List.mem_singleton.1 h
        rw [this, UInt8.toNat_ofNat']
        omega
theorem itoa_digit (n : Nat) : ∀ d ∈ itoaF n, 48 ≤ d.toNat ∧ d.toNat ≤ 57 := by
  unfold itoaF
  split
  · intro d hd
    have := List.mem_singleton.1 hd
    rw [this]; decide
  · exact digs_digit n
theorem itoa_no32 (n : Nat) : (32 : UInt8) ∉ itoaF n := fun h => by have := (itoa_digit n _ h).1; revert this; decide
theorem itoa_no35 (n : Nat) : (35 : UInt8) ∉ itoaF n := fun h => by have := (itoa_digit n _ h).1; revert this; decide
theorem itoa_no58 (n : Nat) : (58 : UInt8) ∉ itoaF n := fun h => by have := (itoa_digit n _ h).2; revert this; decide
theorem chain_cases (n : Nat) : (n = 0 ∧ bl (chainB n) = [110, 111, 110, 101]) ∨ (n = 1 ∧ bl (chainB n) = [65]) ∨ (n = 2 ∧ bl (chainB n) = [66]) ∨ (n = 3 ∧ bl (chainB n) = [76, 49]) ∨ bl (chainB n) = [99, 104, 97, 105, 110, 63] ++ itoaF n := by
  unfold chainB
  by_cases k0 : n = 0
  · rw [if_pos k0]; exact .inl ⟨k0, rfl⟩
  by_cases k1 : n = 1
  · rw [if_neg k0, if_pos k1]; exact .inr (.inl ⟨k1, rfl⟩)
  by_cases k2 : n = 2
  · rw [if_neg k0, if_neg k1, if_pos k2]; exact .inr (.inr (.inl ⟨k2, rfl⟩))
  by_cases k3 : n = 3
  · rw [if_neg k0, if_neg k1, if_neg k2, if_pos k3]; exact .inr (.inr (.inr (.inl ⟨k3, rfl⟩)))
  rw [if_neg k0, if_neg k1, if_neg k2, if_neg k3, bl_append, bl_itoa]
  exact .inr (.inr (.inr (.inr rfl)))
theorem chain_inj {m n : Nat} (h : bl (chainB m) = bl (chainB n)) : m = n := by
  rcases chain_cases m with ⟨r, e⟩ | ⟨r, e⟩ | ⟨r, e⟩ | ⟨r, e⟩ | e <;> rcases chain_cases n with ⟨r', e'⟩ | ⟨r', e'⟩ | ⟨r', e'⟩ | ⟨r', e'⟩ | e' <;> rw [e, e'] at h <;>
    first | (exact r.trans r'.symm) | (exact itoa_inj (List.append_cancel_left h)) | (simp at h)
theorem chain_no32 (n : Nat) : (32 : UInt8) ∉ bl (chainB n) := by
  rcases chain_cases n with ⟨_, e⟩ | ⟨_, e⟩ | ⟨_, e⟩ | ⟨_, e⟩ | e <;> rw [e]
  · decide
  · decide
  · decide
  · decide
  · intro h
    rcases List.mem_append.1 h with h | h
    · revert h; decide
    · exact itoa_no32 n h
theorem chain_no35 (n : Nat) : (35 : UInt8) ∉ bl (chainB n) := by
  rcases chain_cases n with ⟨_, e⟩ | ⟨_, e⟩ | ⟨_, e⟩ | ⟨_, e⟩ | e <;> rw [e]
  · decide
  · decide
  · decide
  · decide
  · intro h
    rcases List.mem_append.1 h with h | h
    · revert h; decide
    · exact itoa_no35 n h
theorem bl_party (c a : Nat) : bl (partyB c a) = bl (chainB c) ++ 35 :: itoaF a := by
  unfold partyB
  rw [bl_append, bl_append, bl_itoa, List.append_assoc]
  rfl
theorem bl_value (t a : Nat) : bl (valueB t a) = itoaF a ++ 32 :: ([111, 102, 32, 116, 111, 107, 101, 110, 32] ++ itoaF t) := by
  unfold valueB
  rw [bl_append, bl_append, bl_itoa, bl_itoa, List.append_assoc]
  rfl
theorem party_inj {c a c' a' : Nat} (h : bl (partyB c a) = bl (partyB c' a')) : c = c' ∧ a = a' := by
  rw [bl_party, bl_party] at h
  obtain ⟨h1, h2⟩ := cut_at (chain_no35 _) (chain_no35 _) h
  exact ⟨chain_inj h1, itoa_inj h2⟩
theorem party_cut {c a c' a' : Nat} {s s' : List UInt8} (h : bl (partyB c a) ++ 32 :: s = bl (partyB c' a') ++ 32 :: s') : c = c' ∧ a = a' ∧ s = s' := by
  rw [bl_party, bl_party, List.append_assoc, List.append_assoc] at h
  obtain ⟨h1, h2⟩ := cut_at (chain_no35 _) (chain_no35 _) h
  obtain ⟨h3, h4⟩ := cut_at (itoa_no32 _) (itoa_no32 _) h2
  exact ⟨chain_inj h1, itoa_inj h3, h4⟩
theorem party_colon {c a c' a' : Nat} {s s' : List UInt8} (h : bl (partyB c a) ++ 58 :: s = bl (partyB c' a') ++ 58 :: s') : c = c' ∧ a = a' ∧ s = s' := by
  rw [bl_party, bl_party, List.append_assoc, List.append_assoc] at h
  obtain ⟨h1, h2⟩ := cut_at (chain_no35 _) (chain_no35 _) h
  obtain ⟨h3, h4⟩ := cut_at (itoa_no58 _) (itoa_no58 _) h2
  exact ⟨chain_inj h1, itoa_inj h3, h4⟩
theorem value_inj {t a t' a' : Nat} (h : bl (valueB t a) = bl (valueB t' a')) : t = t' ∧ a = a' := by
  rw [bl_value, bl_value] at h
  obtain ⟨h1, h2⟩ := cut_at (itoa_no32 _) (itoa_no32 _) h
  exact ⟨itoa_inj (List.append_cancel_left h2), itoa_inj h1⟩
theorem value_cut {t a t' a' : Nat} {s s' : List UInt8} (h : bl (valueB t a) ++ 32 :: s = bl (valueB t' a') ++ 32 :: s') : t = t' ∧ a = a' ∧ s = s' := by
  rw [bl_value, bl_value, List.append_assoc, List.append_assoc] at h
  obtain ⟨h1, h2⟩ := cut_at (itoa_no32 _) (itoa_no32 _) h
  have h2 : ([111, 102, 32, 116, 111, 107, 101, 110, 32] ++ itoaF t) ++ 32 :: s = ([111, 102, 32, 116, 111, 107, 101, 110, 32] ++ itoaF t') ++ 32 :: s' := h2
  rw [List.append_assoc, List.append_assoc] at h2
  obtain ⟨h3, h4⟩ := cut_at (itoa_no32 _) (itoa_no32 _) (List.append_cancel_left h2)
  exact ⟨itoa_inj h3, itoa_inj h1, h4⟩
theorem hexD_inj : ∀ i j : Fin 16, hexD i.val = hexD j.val → i.val = j.val := by decide
theorem hexD_no32 : ∀ i : Fin 16, hexD i.val ≠ 32 := by decide
theorem hexF_inj : ∀ {xs ys : List UInt8}, hexF xs = hexF ys → xs = ys
  | [], [], _ => rfl
  | [], y :: ys, h => by have := congrArg List.length h; rw [hexF_length, hexF_length] at this; simp at this
  | x :: xs, [], h => by have := congrArg List.length h; rw [hexF_length, hexF_length] at this; simp at this
  | x :: xs, y :: ys, h => by
    have h' : hexD (x.toNat / 16) :: hexD (x.toNat % 16) :: hexF xs = hexD (y.toNat / 16) :: hexD (y.toNat % 16) :: hexF ys := h
    simp only [List.cons.injEq] at h'
    have hx := w8_lt x
    have hy := w8_lt y
    have h1 := hexD_inj ⟨x.toNat / 16, by omega⟩ ⟨y.toNat / 16, by omega⟩ h'.1
    have h2 := hexD_inj ⟨x.toNat % 16, by omega⟩ ⟨y.toNat % 16, by omega⟩ h'.2.1
    simp only at h1 h2
    have h3 : x = y := UInt8.toNat_inj.1 (by omega)
    rw [h3, hexF_inj h'.2.2]
theorem hexF_no32 : ∀ xs : List UInt8, (32 : UInt8) ∉ hexF xs
  | [] => by intro h; cases h
  | x :: xs => by
    have hx := w8_lt x
    intro h
    have h' : (32 : UInt8) ∈ hexD (x.toNat / 16) :: hexD (x.toNat % 16) :: hexF xs := h
    rcases List.mem_cons.1 h' with h1 | h1
    · exact hexD_no32 ⟨x.toNat / 16, by omega⟩ h1.symm
    · rcases List.mem_cons.1 h1 with h2 | h2
      · exact hexD_no32 ⟨x.toNat % 16, by omega⟩ h2.symm
      · exact hexF_no32 xs h2
def MsgOk (m : Message) : Prop := m = Message.zero ∨ (m.kind = 2 ∧ m.size = 0 ∧ m.payload = Vector.replicate 32 0) ∨ (m.kind = 1 ∧ m.size.toNat ≤ 32 ∧ blankF m.payload m.size.toNat = true ∧ m.token = 0 ∧ m.amount = 0)
theorem bl_headM (m : Message) : bl (headM m) = bl (msgKindB m.kind.toNat) ++ 32 :: ([109, 101, 115, 115, 97, 103, 101, 32] ++ (itoaF m.seq.toNat ++ 32 :: ([102, 114, 111, 109, 32] ++ (bl (partyB m.from_.toNat m.sender.toNat) ++ 32 :: ([116, 111, 32] ++ bl (partyB m.to_.toNat m.receiver.toNat)))))) := by
  unfold headM
  simp only [bl_append, bl_itoa, List.append_assoc]
  rfl
theorem u8_inj {a b : UInt8} (h : a.toNat = b.toNat) : a = b := UInt8.toNat_inj.1 h
theorem u64_inj {a b : UInt64} (h : a.toNat = b.toNat) : a = b := UInt64.toNat_inj.1 h
theorem msg_ext {a b : Message} (h1 : a.kind = b.kind) (h2 : a.from_ = b.from_) (h3 : a.to_ = b.to_) (h4 : a.sender = b.sender) (h5 : a.receiver = b.receiver) (h6 : a.seq = b.seq) (h7 : a.token = b.token) (h8 : a.amount = b.amount) (h9 : a.size = b.size) (h10 : a.payload = b.payload) : a = b := by
  cases a; cases b; simp_all
theorem head_cut {m n : Message} (hk : (32 : UInt8) ∉ bl (msgKindB m.kind.toNat)) (hk' : (32 : UInt8) ∉ bl (msgKindB n.kind.toNat)) {s s' : List UInt8} (h : bl (headM m) ++ 58 :: s = bl (headM n) ++ 58 :: s') :
    bl (msgKindB m.kind.toNat) = bl (msgKindB n.kind.toNat) ∧ m.seq = n.seq ∧ m.from_ = n.from_ ∧ m.sender = n.sender ∧ m.to_ = n.to_ ∧ m.receiver = n.receiver ∧ s = s' := by
  rw [bl_headM, bl_headM] at h
  simp only [List.append_assoc, List.cons_append] at h
  obtain ⟨h1, h⟩ := cut_at hk hk' h
  simp only [List.cons.injEq, true_and] at h
  obtain ⟨h2, h⟩ := cut_at (itoa_no32 _) (itoa_no32 _) h
  simp only [List.cons.injEq, true_and] at h
  obtain ⟨h3, h4, h⟩ := party_cut h
  simp only [List.cons.injEq, true_and] at h
  obtain ⟨h5, h6, h⟩ := party_colon h
  exact ⟨h1, u64_inj (itoa_inj h2), u8_inj h3, u8_inj h4, u8_inj h5, u8_inj h6, h⟩
theorem head_first {m n : Message} (hk : (32 : UInt8) ∉ bl (msgKindB m.kind.toNat)) (hk' : (32 : UInt8) ∉ bl (msgKindB n.kind.toNat)) {s s' : List UInt8} (h : bl (headM m) ++ s = bl (headM n) ++ s') : bl (msgKindB m.kind.toNat) = bl (msgKindB n.kind.toNat) := by
  rw [bl_headM, bl_headM] at h
  simp only [List.append_assoc, List.cons_append] at h
  exact (cut_at hk hk' h).1
theorem bl_descM (m : Message) : ∃ s, bl (descM m) = bl (headM m) ++ s ∧ (w8 m.kind = 2 → s = 58 :: 32 :: bl (valueB m.token.toNat m.amount.toNat)) ∧ (w8 m.kind = 1 → s = 58 :: 32 :: 48 :: 120 :: hexF (m.payload.toList.take m.size.toNat)) := by
  unfold descM
  by_cases k2 : w8 m.kind = 2
  · rw [if_pos k2]
    refine ⟨_, by rw [bl_append, bl_append, List.append_assoc]; rfl, fun _ => rfl, fun h => by omega⟩
  · rw [if_neg k2]
    by_cases k1 : w8 m.kind = 1
    · rw [if_pos k1]
      refine ⟨_, by rw [bl_append, bl_append, bl_hex, List.append_assoc]; rfl, fun h => by omega, fun _ => rfl⟩
    · rw [if_neg k1]
      exact ⟨[], by simp, fun h => absurd h k2, fun h => absurd h k1⟩
theorem take_pay {p q : Vector UInt8 32} {k l : Nat} (hk : k ≤ 32) (hl : l ≤ 32) (hp : blankF p k = true) (hq : blankF q l = true) (h : p.toList.take k = q.toList.take l) : k = l ∧ p = q := by
  have hkl : k = l := by
    have := congrArg List.length h
    simp at this
    omega
  refine ⟨hkl, ?_⟩
  rw [← keep_blank hk hp, ← keep_blank hl hq, h]
theorem mk_name {m : Message} (h : MsgOk m) : (m.kind = 0 ∧ bl (msgKindB m.kind.toNat) = [110, 111, 110, 101]) ∨ (m.kind = 2 ∧ bl (msgKindB m.kind.toNat) = [98, 117, 114, 110]) ∨ (m.kind = 1 ∧ bl (msgKindB m.kind.toNat) = [112, 108, 97, 105, 110]) := by
  rcases h with h | h | h
  · exact .inl ⟨by rw [h]; rfl, by rw [h]; rfl⟩
  · exact .inr (.inl ⟨h.1, by rw [h.1]; rfl⟩)
  · exact .inr (.inr ⟨h.1, by rw [h.1]; rfl⟩)
theorem mk_no32 {m : Message} (h : MsgOk m) : (32 : UInt8) ∉ bl (msgKindB m.kind.toNat) := by
  rcases mk_name h with ⟨_, e⟩ | ⟨_, e⟩ | ⟨_, e⟩ <;> rw [e] <;> decide
theorem descM_inj {m n : Message} (hm : MsgOk m) (hn : MsgOk n) (h : descM m = descM n) : m = n := by
  have h' := congrArg bl h
  obtain ⟨s, e, s2, s1⟩ := bl_descM m
  obtain ⟨s', e', s2', s1'⟩ := bl_descM n
  rw [e, e'] at h'
  have hkk := head_first (mk_no32 hm) (mk_no32 hn) h'
  have hkind : m.kind = n.kind := by
    rcases mk_name hm with ⟨k, q⟩ | ⟨k, q⟩ | ⟨k, q⟩ <;> rcases mk_name hn with ⟨k', q'⟩ | ⟨k', q'⟩ | ⟨k', q'⟩ <;> rw [q, q'] at hkk <;>
      first | (exact k.trans k'.symm) | (simp at hkk)
  rcases hm with hm0 | ⟨k, hz, hp⟩ | ⟨k, hz, hp, ht, ha⟩
  · rcases hn with hn0 | ⟨k', _⟩ | ⟨k', _⟩
    · rw [hm0, hn0]
    · rw [k', hm0] at hkind; exact absurd hkind (by decide)
    · rw [k', hm0] at hkind; exact absurd hkind (by decide)
  · have k' : n.kind = 2 := by rw [← hkind, k]
    have hn' : n.size = 0 ∧ n.payload = Vector.replicate 32 0 := by
      rcases hn with hn0 | ⟨_, q⟩ | ⟨q, _⟩
      · rw [hn0] at k'; exact absurd k' (by decide)
      · exact q
      · rw [k'] at q; exact absurd q (by decide)
    rw [s2 (by rw [k]; rfl), s2' (by rw [k']; rfl)] at h'
    obtain ⟨_, g1, g2, g3, g4, g5, g6⟩ := head_cut (by rw [k]; decide) (by rw [k']; decide) h'
    simp only [List.cons.injEq, true_and] at g6
    obtain ⟨g7, g8⟩ := value_inj g6
    exact msg_ext hkind g2 g4 g3 g5 g1 (u8_inj g7) (u64_inj g8) (by rw [hz, hn'.1]) (by rw [hp, hn'.2])
  · have k' : n.kind = 1 := by rw [← hkind, k]
    have hn' : n.size.toNat ≤ 32 ∧ blankF n.payload n.size.toNat = true ∧ n.token = 0 ∧ n.amount = 0 := by
      rcases hn with hn0 | ⟨q, _⟩ | ⟨_, q⟩
      · rw [hn0] at k'; exact absurd k' (by decide)
      · rw [k'] at q; exact absurd q (by decide)
      · exact q
    rw [s1 (by rw [k]; rfl), s1' (by rw [k']; rfl)] at h'
    obtain ⟨_, g1, g2, g3, g4, g5, g6⟩ := head_cut (by rw [k]; decide) (by rw [k']; decide) h'
    simp only [List.cons.injEq, true_and] at g6
    obtain ⟨g7, g8⟩ := take_pay hz hn'.1 hp hn'.2.1 (hexF_inj g6)
    exact msg_ext hkind g2 g4 g3 g5 g1 (by rw [ht, hn'.2.2.1]) (by rw [ha, hn'.2.2.2]) (u8_inj g7) g8
def Sound (x : Tx) : Prop := strayV x = 0 ∧ fieldsF x.kind ≠ 0 ∧ Shape2 x
theorem Sound.ok {x : Tx} (h : Sound x) : ShapeOk x := ⟨h.1, h.2.1, h.2.2.1, fun k => (h.2.2.2.1 k).2.2.2.2⟩
theorem Sound.kinds {x : Tx} (h : Sound x) : x.kind = 1 ∨ x.kind = 2 ∨ x.kind = 4 ∨ x.kind = 3 ∨ x.kind = 5 := by
  have hf := h.2.1
  unfold fieldsF at hf
  by_cases k1 : w8 x.kind = 1
  · exact .inl (w8_inj (k1.trans (by rfl)))
  by_cases k2 : w8 x.kind = 2
  · exact .inr (.inl (w8_inj (k2.trans (by rfl))))
  by_cases k4 : w8 x.kind = 4
  · exact .inr (.inr (.inl (w8_inj (k4.trans (by rfl)))))
  by_cases k3 : w8 x.kind = 3
  · exact .inr (.inr (.inr (.inl (w8_inj (k3.trans (by rfl))))))
  by_cases k5 : w8 x.kind = 5
  · exact .inr (.inr (.inr (.inr ((w8_inj (k5.trans (by rfl)))))))
  exact absurd (by rw [if_neg k1, if_neg k2, if_neg k4, if_neg (by rintro (h | h); exact k3 h; exact k5 h)]) hf
theorem Sound.msg {x : Tx} (h : Sound x) : MsgOk x.msg := by
  have hs := h.1
  rw [stray_eq] at hs
  rcases h.kinds with k | k | k | k | k
  · have hk : fieldsF x.kind = 5 := by rw [k]; rfl
    rw [hk, not5] at hs
    simp only [Bool.not_eq_false', decide_eq_true_eq, Bool.and_eq_true] at hs
    exact .inl hs.2.2
  · have hk : fieldsF x.kind = 7 := by rw [k]; rfl
    rw [hk, not7] at hs
    simp only [Bool.not_eq_false', decide_eq_true_eq, Bool.and_eq_true] at hs
    exact .inl hs.2
  · have hk : fieldsF x.kind = 11 := by rw [k]; rfl
    rw [hk, not11] at hs
    simp only [Bool.not_eq_false', decide_eq_true_eq, Bool.and_eq_true] at hs
    exact .inl hs.2
  · obtain ⟨q1, q2, q3⟩ := h.2.2.2.2 (by rw [k]; rfl)
    exact .inr (.inl ⟨q1, u8_inj q2, blank0 q3⟩)
  · obtain ⟨q1, q2, q3, q4, _⟩ := h.2.2.2.1 (by rw [k]; rfl)
    exact .inr (.inr ⟨q1, q2.1, q2.2.2, w8_zero.1 q3, w64_zero.1 q4⟩)
theorem MsgOk.size {m : Message} (h : MsgOk m) : m.size.toNat ≤ 32 := by
  rcases h with h | h | h
  · rw [h]; decide
  · rw [h.2.1]; decide
  · exact h.2.1
theorem Sound.size {x : Tx} (h : Sound x) : x.size.toNat ≤ 32 := by
  have hs := h.1
  rw [stray_eq] at hs
  rcases h.kinds with k | k | k | k | k
  · have hk : fieldsF x.kind = 5 := by rw [k]; rfl
    rw [hk, not5] at hs
    simp only [Bool.not_eq_false', decide_eq_true_eq, Bool.and_eq_true] at hs
    rw [w8_zero.1 hs.2.1.1]; decide
  · have hk : fieldsF x.kind = 7 := by rw [k]; rfl
    rw [hk, not7] at hs
    simp only [Bool.not_eq_false', decide_eq_true_eq, Bool.and_eq_true] at hs
    rw [w8_zero.1 hs.1.1]; decide
  · exact (h.2.2.1 (by rw [k]; rfl)).1
  · have hk : fieldsF x.kind = 16 := by rw [k]; rfl
    rw [hk, not16] at hs
    simp only [Bool.not_eq_false', decide_eq_true_eq, Bool.and_eq_true] at hs
    rw [w8_zero.1 hs.2.2.2.1]; decide
  · have hk : fieldsF x.kind = 16 := by rw [k]; rfl
    rw [hk, not16] at hs
    simp only [Bool.not_eq_false', decide_eq_true_eq, Bool.and_eq_true] at hs
    rw [w8_zero.1 hs.2.2.2.1]; decide
theorem bl_headX (x : Tx) : bl (headX x) = bl (kindB x.kind.toNat) ++ 32 :: ([98, 121, 32] ++ (bl (partyB x.chain.toNat x.from_.toNat) ++ 32 :: ([110, 111, 110, 99, 101, 32] ++ (itoaF x.nonce.toNat ++ 32 :: ([102, 101, 101, 32] ++ itoaF x.fee.toNat))))) := by
  unfold headX
  simp only [bl_append, bl_itoa, List.append_assoc]
  rfl
theorem xk_name {x : Tx} (h : Sound x) : (x.kind = 1 ∧ bl (kindB x.kind.toNat) = [116, 114, 97, 110, 115, 102, 101, 114]) ∨ (x.kind = 2 ∧ bl (kindB x.kind.toNat) = [98, 117, 114, 110]) ∨ (x.kind = 4 ∧ bl (kindB x.kind.toNat) = [115, 101, 110, 100]) ∨ (x.kind = 3 ∧ bl (kindB x.kind.toNat) = [109, 105, 110, 116]) ∨ (x.kind = 5 ∧ bl (kindB x.kind.toNat) = [99, 111, 110, 115, 117, 109, 101]) := by
  rcases h.kinds with k | k | k | k | k
  · exact .inl ⟨k, by rw [k]; rfl⟩
  · exact .inr (.inl ⟨k, by rw [k]; rfl⟩)
  · exact .inr (.inr (.inl ⟨k, by rw [k]; rfl⟩))
  · exact .inr (.inr (.inr (.inl ⟨k, by rw [k]; rfl⟩)))
  · exact .inr (.inr (.inr (.inr (⟨k, by rw [k]; rfl⟩))))
theorem xk_no32 {x : Tx} (h : Sound x) : (32 : UInt8) ∉ bl (kindB x.kind.toNat) := by
  rcases xk_name h with ⟨_, e⟩ | ⟨_, e⟩ | ⟨_, e⟩ | ⟨_, e⟩ | ⟨_, e⟩ <;> rw [e] <;> decide
theorem bl_descX {x : Tx} (h : Sound x) : ∃ s, bl (descX x) = bl (headX x) ++ 58 :: s ∧
    (x.kind = 1 → s = 32 :: (bl (valueB x.token.toNat x.amount.toNat) ++ 32 :: ([116, 111, 32] ++ bl (partyB x.chain.toNat x.to_.toNat)))) ∧
    (x.kind = 2 → s = 32 :: (bl (valueB x.token.toNat x.amount.toNat) ++ 32 :: ([102, 111, 114, 32] ++ bl (partyB x.dest.toNat x.to_.toNat)))) ∧
    (x.kind = 4 → s = 32 :: 48 :: 120 :: (hexF (x.payload.toList.take x.size.toNat) ++ 32 :: ([116, 111, 32] ++ bl (partyB x.dest.toNat x.to_.toNat)))) ∧
    (x.kind = 3 ∨ x.kind = 5 → s = 32 :: bl (descM x.msg)) := by
  unfold descX
  rcases h.kinds with k | k | k | k | k
  · rw [if_pos (show w8 x.kind = 1 by rw [k]; rfl)]
    refine ⟨_, by simp only [bl_append, List.append_assoc]; rfl, fun _ => rfl, fun h => absurd (k.symm.trans h) (by decide), fun h => absurd (k.symm.trans h) (by decide), fun h => by rcases h with h | h <;> exact absurd (k.symm.trans h) (by decide)⟩
  · rw [if_neg (show ¬ w8 x.kind = 1 by rw [k]; decide), if_pos (show w8 x.kind = 2 by rw [k]; rfl)]
    refine ⟨_, by simp only [bl_append, List.append_assoc]; rfl, fun h => absurd (k.symm.trans h) (by decide), fun _ => rfl, fun h => absurd (k.symm.trans h) (by decide), fun h => by rcases h with h | h <;> exact absurd (k.symm.trans h) (by decide)⟩
  · rw [if_neg (show ¬ w8 x.kind = 1 by rw [k]; decide), if_neg (show ¬ w8 x.kind = 2 by rw [k]; decide), if_pos (show w8 x.kind = 4 by rw [k]; rfl)]
    refine ⟨_, by simp only [bl_append, bl_hex, List.append_assoc]; rfl, fun h => absurd (k.symm.trans h) (by decide), fun h => absurd (k.symm.trans h) (by decide), fun _ => rfl, fun h => by rcases h with h | h <;> exact absurd (k.symm.trans h) (by decide)⟩
  · rw [if_neg (show ¬ w8 x.kind = 1 by rw [k]; decide), if_neg (show ¬ w8 x.kind = 2 by rw [k]; decide), if_neg (show ¬ w8 x.kind = 4 by rw [k]; decide), if_pos (show w8 x.kind = 3 ∨ w8 x.kind = 5 by rw [k]; exact .inl rfl)]
    refine ⟨_, by simp only [bl_append, List.append_assoc]; rfl, fun h => absurd (k.symm.trans h) (by decide), fun h => absurd (k.symm.trans h) (by decide), fun h => absurd (k.symm.trans h) (by decide), fun _ => rfl⟩
  · rw [if_neg (show ¬ w8 x.kind = 1 by rw [k]; decide), if_neg (show ¬ w8 x.kind = 2 by rw [k]; decide), if_neg (show ¬ w8 x.kind = 4 by rw [k]; decide), if_pos (show w8 x.kind = 3 ∨ w8 x.kind = 5 by rw [k]; exact .inr rfl)]
    refine ⟨_, by simp only [bl_append, List.append_assoc]; rfl, fun h => absurd (k.symm.trans h) (by decide), fun h => absurd (k.symm.trans h) (by decide), fun h => absurd (k.symm.trans h) (by decide), fun _ => rfl⟩
theorem headX_cut {x y : Tx} (hx : Sound x) (hy : Sound y) {s s' : List UInt8} (h : bl (headX x) ++ 58 :: s = bl (headX y) ++ 58 :: s') :
    x.kind = y.kind ∧ x.chain = y.chain ∧ x.from_ = y.from_ ∧ x.nonce = y.nonce ∧ x.fee = y.fee ∧ s = s' := by
  rw [bl_headX, bl_headX] at h
  simp only [List.append_assoc, List.cons_append] at h
  obtain ⟨h1, h⟩ := cut_at (xk_no32 hx) (xk_no32 hy) h
  simp only [List.nil_append, List.cons.injEq, true_and] at h
  obtain ⟨h2, h3, h⟩ := party_cut h
  simp only [List.nil_append, List.cons.injEq, true_and] at h
  obtain ⟨h4, h⟩ := cut_at (itoa_no32 _) (itoa_no32 _) h
  simp only [List.nil_append, List.cons.injEq, true_and] at h
  obtain ⟨h5, h⟩ := cut_at (itoa_no58 _) (itoa_no58 _) h
  refine ⟨?_, u8_inj h2, u8_inj h3, u64_inj (itoa_inj h4), u64_inj (itoa_inj h5), h⟩
  rcases xk_name hx with ⟨k, q⟩ | ⟨k, q⟩ | ⟨k, q⟩ | ⟨k, q⟩ | ⟨k, q⟩ <;> rcases xk_name hy with ⟨k', q'⟩ | ⟨k', q'⟩ | ⟨k', q'⟩ | ⟨k', q'⟩ | ⟨k', q'⟩ <;> rw [q, q'] at h1 <;>
    first | (exact k.trans k'.symm) | (simp at h1)
theorem same_of {x y : Tx} (hx : Sound x) (hy : Sound y) (h : rebuildF x = rebuildF y) : x = y := by
  have h1 := rebuild_same hx.ok
  have h2 := rebuild_same hy.ok
  rw [h, h2] at h1
  exact (Prod.mk.inj h1).1.symm
theorem descX_inj {x y : Tx} (hx : Sound x) (hy : Sound y) (h : descX x = descX y) : x = y := by
  have h' := congrArg bl h
  obtain ⟨s, e, s1, s2, s4, s3⟩ := bl_descX hx
  obtain ⟨s', e', s1', s2', s4', s3'⟩ := bl_descX hy
  rw [e, e'] at h'
  obtain ⟨g0, g1, g2, g3, g4, g⟩ := headX_cut hx hy h'
  clear h' e e'
  apply same_of hx hy
  unfold rebuildF
  rcases hx.kinds with k | k | k | k | k
  · have k' : y.kind = 1 := g0 ▸ k
    have w1 : w8 x.kind = 1 := by rw [k]; rfl
    have w1' : w8 y.kind = 1 := by rw [k']; rfl
    rw [s1 k, s1' k'] at g
    simp only [List.cons.injEq, true_and] at g
    obtain ⟨a1, a2, g⟩ := value_cut g
    simp only [List.cons_append, List.nil_append, List.cons.injEq, true_and] at g
    obtain ⟨_, a3⟩ := party_inj g
    rw [if_pos w1, if_pos w1', g1, g2, g3, g4, u8_inj a1, u64_inj a2, u8_inj a3]
  · have k' : y.kind = 2 := g0 ▸ k
    have w1 : ¬ w8 x.kind = 1 := by rw [k]; decide
    have w1' : ¬ w8 y.kind = 1 := by rw [k']; decide
    have w2 : w8 x.kind = 2 := by rw [k]; rfl
    have w2' : w8 y.kind = 2 := by rw [k']; rfl
    rw [s2 k, s2' k'] at g
    simp only [List.cons.injEq, true_and] at g
    obtain ⟨a1, a2, g⟩ := value_cut g
    simp only [List.cons_append, List.nil_append, List.cons.injEq, true_and] at g
    obtain ⟨a4, a3⟩ := party_inj g
    rw [if_neg w1, if_neg w1', if_pos w2, if_pos w2', g1, g2, g3, g4, u8_inj a1, u64_inj a2, u8_inj a3, u8_inj a4]
  · have k' : y.kind = 4 := g0 ▸ k
    have w1 : ¬ w8 x.kind = 1 := by rw [k]; decide
    have w1' : ¬ w8 y.kind = 1 := by rw [k']; decide
    have w2 : ¬ w8 x.kind = 2 := by rw [k]; decide
    have w2' : ¬ w8 y.kind = 2 := by rw [k']; decide
    have w4 : w8 x.kind = 4 := by rw [k]; rfl
    have w4' : w8 y.kind = 4 := by rw [k']; rfl
    rw [s4 k, s4' k'] at g
    simp only [List.cons.injEq, true_and] at g
    obtain ⟨a1, g⟩ := cut_at (hexF_no32 _) (hexF_no32 _) g
    simp only [List.cons_append, List.nil_append, List.cons.injEq, true_and] at g
    obtain ⟨a4, a3⟩ := party_inj g
    obtain ⟨b1, b2⟩ := take_pay (hx.2.2.1 w4).1 (hy.2.2.1 w4').1 (hx.2.2.1 w4).2.2 (hy.2.2.1 w4').2.2 (hexF_inj a1)
    rw [if_neg w1, if_neg w1', if_neg w2, if_neg w2', if_pos w4, if_pos w4', g1, g2, g3, g4, u8_inj a3, u8_inj a4, b1, b2]
  · have k' : y.kind = 3 := g0 ▸ k
    rw [s3 (.inl k), s3' (.inl k')] at g
    simp only [List.cons.injEq, true_and] at g
    have hm := descM_inj hx.msg hy.msg (bl_inj g)
    have w1 : ¬ w8 x.kind = 1 := by rw [k]; decide
    have w1' : ¬ w8 y.kind = 1 := by rw [k']; decide
    have w2 : ¬ w8 x.kind = 2 := by rw [k]; decide
    have w2' : ¬ w8 y.kind = 2 := by rw [k']; decide
    have w4 : ¬ w8 x.kind = 4 := by rw [k]; decide
    have w4' : ¬ w8 y.kind = 4 := by rw [k']; decide
    have w3 : w8 x.kind = 3 := by rw [k]; rfl
    have w3' : w8 y.kind = 3 := by rw [k']; rfl
    rw [if_neg w1, if_neg w1', if_neg w2, if_neg w2', if_neg w4, if_neg w4', if_pos w3, if_pos w3', g1, g2, g3, g4, hm]
  · have k' : y.kind = 5 := g0 ▸ k
    rw [s3 (.inr k), s3' (.inr k')] at g
    simp only [List.cons.injEq, true_and] at g
    have hm := descM_inj hx.msg hy.msg (bl_inj g)
    have w1 : ¬ w8 x.kind = 1 := by rw [k]; decide
    have w1' : ¬ w8 y.kind = 1 := by rw [k']; decide
    have w2 : ¬ w8 x.kind = 2 := by rw [k]; decide
    have w2' : ¬ w8 y.kind = 2 := by rw [k']; decide
    have w4 : ¬ w8 x.kind = 4 := by rw [k]; decide
    have w4' : ¬ w8 y.kind = 4 := by rw [k']; decide
    have w3 : ¬ w8 x.kind = 3 := by rw [k]; decide
    have w3' : ¬ w8 y.kind = 3 := by rw [k']; decide
    have w5 : w8 x.kind = 5 := by rw [k]; rfl
    have w5' : w8 y.kind = 5 := by rw [k']; rfl
    rw [if_neg w1, if_neg w1', if_neg w2, if_neg w2', if_neg w4, if_neg w4', if_neg w3, if_neg w3', if_pos w5, if_pos w5', g1, g3, g4, hm]
end Go.Proofs.Qxb6500786a
