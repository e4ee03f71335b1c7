import Derived.Test.Qxb6500786aReb
import Derived.StillTailTactics
import Derived.Deep.QuietTactic
import Derived.BigQuiet
import Derived.Deep.RegionHeld
import Derived.Deep.CutRange
import Derived.Laws.ResultCell
import Derived.Laws.Rows
import Derived.DeepKeys
import Derived.DataBytes
import Derived.Laws.StructEq
set_option linter.unusedSimpArgs false
set_option linter.unusedVariables false
namespace Go.Proofs.Qxb6500786a
open Go.RowKit Go.Blk
attribute [local go_sem ↓] execOp_load execOp_store execOp_alloc
attribute [local go_sem] Try.ld33 Try.st33 Try.ld24 Try.st24 Try.ld29 Try.st29 Try.ld30 Try.st30 Try.ld31 Try.st31 Try.ld5 Try.st5 Try.ld28 Try.st28 Try.ld27 Try.st27 Try.ld26 Try.st26 Try.ld2 Try.st2 Try.ld3 Try.st3 Try.ld4 Try.st4 Try.ld9 Try.st9 Try.ld12 Try.st12 Try.ld21 Try.st21 Try.ld22 Try.st22 Try.ld41 Try.st41 Try.ld50 Try.st50 Try.ld55 Try.st55 Try.ld63 Try.st63 Try.ld78 Try.st78 Try.ld87 Try.st87 Try.ld91 Try.st91 Try.ld32 Try.st32 Try.ld47 Try.st47 Try.ld52 Try.st52 Try.ld71 Try.st71 Try.ld35 Try.st35 Try.ld37 Try.st37 Try.ld39 Try.st39 Try.al32 Try.al47 Try.al52 Try.al71 Try.al35 Try.al37 Try.al39
attribute [local go_sem] Message.length_enc Message.ok_enc Message.all_get Message.all_set Message.kind_get Message.kind_set Message.from__get Message.from__set Message.to__get Message.to__set Message.sender_get Message.sender_set Message.receiver_get Message.receiver_set Message.seq_get Message.seq_set Message.token_get Message.token_set Message.amount_get Message.amount_set Message.size_get Message.size_set Message.payload_get Message.payload_set Tx.length_enc Tx.ok_enc Tx.all_get Tx.all_set Tx.kind_get Tx.kind_set Tx.chain_get Tx.chain_set Tx.from__get Tx.from__set Tx.nonce_get Tx.nonce_set Tx.fee_get Tx.fee_set Tx.to__get Tx.to__set Tx.dest_get Tx.dest_set Tx.token_get Tx.token_set Tx.amount_get Tx.amount_set Tx.size_get Tx.size_set Tx.payload_get Tx.payload_set Tx.msg_get Tx.msg_set Tx.msg_kind_get Tx.msg_kind_set Tx.msg_from__get Tx.msg_from__set Tx.msg_to__get Tx.msg_to__set Tx.msg_sender_get Tx.msg_sender_set Tx.msg_receiver_get Tx.msg_receiver_set Tx.msg_seq_get Tx.msg_seq_set Tx.msg_token_get Tx.msg_token_set Tx.msg_amount_get Tx.msg_amount_set Tx.msg_size_get Tx.msg_size_set Tx.msg_payload_get Tx.msg_payload_set GOp.length_enc GOp.ok_enc GOp.all_get GOp.all_set GOp.kind_get GOp.kind_set GOp.tx_get GOp.tx_set GOp.txs_get GOp.txs_set GOp.gas_get GOp.gas_set GOp.acct_get GOp.acct_set GOp.token_get GOp.token_set GOp.chain_get GOp.chain_set GOp.seq_get GOp.seq_set GOp.tx_kind_get GOp.tx_kind_set GOp.tx_chain_get GOp.tx_chain_set GOp.tx_from__get GOp.tx_from__set GOp.tx_nonce_get GOp.tx_nonce_set GOp.tx_fee_get GOp.tx_fee_set GOp.tx_to__get GOp.tx_to__set GOp.tx_dest_get GOp.tx_dest_set GOp.tx_token_get GOp.tx_token_set GOp.tx_amount_get GOp.tx_amount_set GOp.tx_size_get GOp.tx_size_set GOp.tx_payload_get GOp.tx_payload_set GOp.tx_msg_get GOp.tx_msg_set GOp.tx_msg_kind_get GOp.tx_msg_kind_set GOp.tx_msg_from__get GOp.tx_msg_from__set GOp.tx_msg_to__get GOp.tx_msg_to__set GOp.tx_msg_sender_get GOp.tx_msg_sender_set GOp.tx_msg_receiver_get GOp.tx_msg_receiver_set GOp.tx_msg_seq_get GOp.tx_msg_seq_set GOp.tx_msg_token_get GOp.tx_msg_token_set GOp.tx_msg_amount_get GOp.tx_msg_amount_set GOp.tx_msg_size_get GOp.tx_msg_size_set GOp.tx_msg_payload_get GOp.tx_msg_payload_set
attribute [local go_sem] size_put size_ext blk_put free_put blk_alloc free_alloc blk_drew free_drew blk_ext free_ext lookOr_some putOr_some segAt_some cellAt_some storeIn_some put_put put_alloc_new length_arr ok_arr_u8 ok_arr_u32 ok_arr_u64 ok_arr_i64 ok_arr_sl cellsV_agg cellsV_int cellsV_bool cellsV_string cellsV_pointer cellsV_slice cellsV_sl ok_int ok_bool ok_string ok_pointer ok_slice ok_sl toList_arr seg_arr set_arr nth_splice nth_splice0 seg_splice seg_splice0 splice_splice splice_splice0 length_splice_if
attribute [local go_sem ↓] execOp_box
attribute [local go_sem] box_run nth_arr_u8 put_arr_u8
def sumB (b1 b2 b3 b4 b5 : Bool) : Int := bitF b1 1 + bitF b2 2 + bitF b3 4 + bitF b4 8 + bitF b5 16
theorem not5 : ∀ b1 b2 b3 b4 b5 : Bool, bits .andNot .u8 (sumB b1 b2 b3 b4 b5) 5 = 0 ↔ (b2 = false ∧ b4 = false ∧ b5 = false) := by decide
theorem not7 : ∀ b1 b2 b3 b4 b5 : Bool, bits .andNot .u8 (sumB b1 b2 b3 b4 b5) 7 = 0 ↔ (b4 = false ∧ b5 = false) := by decide
theorem not11 : ∀ b1 b2 b3 b4 b5 : Bool, bits .andNot .u8 (sumB b1 b2 b3 b4 b5) 11 = 0 ↔ (b3 = false ∧ b5 = false) := by decide
theorem not16 : ∀ b1 b2 b3 b4 b5 : Bool, bits .andNot .u8 (sumB b1 b2 b3 b4 b5) 16 = 0 ↔ (b1 = false ∧ b2 = false ∧ b3 = false ∧ b4 = false) := by decide
theorem stray_eq (x : Tx) : strayV x = bits .andNot .u8 (sumB (!decide (w8 x.to_ = 0)) (!decide (w8 x.dest = 0)) (!(decide (w8 x.token = 0) && decide (w64 x.amount = 0))) (!(decide (w8 x.size = 0) && blankF x.payload 0)) (!decide (x.msg = Message.zero))) (fieldsF x.kind) := rfl
theorem blank0 {p : Vector UInt8 32} (h : blankF p 0 = true) : p = Vector.replicate 32 0 := by
  have h1 : ∀ i : Fin 32, 0 ≤ i.val → p[i.val] = 0 := of_decide_eq_true h
  apply Vector.ext
  intro i hi
  rw [h1 ⟨i, hi⟩ (Nat.zero_le _)]
  simp
theorem blank_zero : blankF (Vector.replicate 32 0) 0 = true := by decide
theorem keep_blank {p : Vector UInt8 32} {k : Nat} (hk : k ≤ 32) (h : blankF p k = true) : keepP (p.toList.take k) = p := by
  have h1 : ∀ i : Fin 32, k ≤ i.val → p[i.val] = 0 := of_decide_eq_true h
  unfold keepP
  apply Vector.ext
  intro i hi
  rw [lay_at]
  by_cases q : i < k
  · rw [if_pos ⟨Nat.zero_le _, by simp; omega⟩]
    simp [q, hi]
  · rw [if_neg (by simp; omega), h1 ⟨i, hi⟩ (by simpa using q)]
    simp
theorem kind_of {k : UInt8} {n : UInt8} (h : w8 k = w8 n) : k = n := w8_inj h
theorem tx_ext {a b : Tx} (h1 : a.kind = b.kind) (h2 : a.chain = b.chain) (h3 : a.from_ = b.from_) (h4 : a.nonce = b.nonce) (h5 : a.fee = b.fee) (h6 : a.to_ = b.to_) (h7 : a.dest = b.dest) (h8 : a.token = b.token) (h9 : a.amount = b.amount) (h10 : a.size = b.size) (h11 : a.payload = b.payload) (h12 : a.msg = b.msg) : a = b := by
  cases a; cases b; simp_all
theorem rebuild_same {x : Tx} (h : ShapeOk x) : rebuildF x = (x, 0) := by
  obtain ⟨hs, hf, h4, h5⟩ := h
  rw [stray_eq] at hs
  unfold rebuildF
  by_cases k1 : w8 x.kind = 1
  · rw [if_pos k1]
    have hk : fieldsF x.kind = 5 := by unfold fieldsF; rw [if_pos k1]
    rw [hk, not5] at hs
    simp only [Bool.not_eq_false', decide_eq_true_eq, Bool.and_eq_true] at hs
    congr 1
    exact tx_ext (kind_of (show w8 1 = w8 x.kind by rw [k1]; rfl)) rfl rfl rfl rfl rfl (w8_zero.1 hs.1).symm rfl rfl (w8_zero.1 hs.2.1.1).symm (blank0 hs.2.1.2).symm hs.2.2.symm
  rw [if_neg k1]
  by_cases k2 : w8 x.kind = 2
  · rw [if_pos k2]
    have hk : fieldsF x.kind = 7 := by unfold fieldsF; rw [if_neg k1, if_pos k2]
    rw [hk, not7] at hs
    simp only [Bool.not_eq_false', decide_eq_true_eq, Bool.and_eq_true] at hs
    congr 1
    exact tx_ext (kind_of (show w8 2 = w8 x.kind by rw [k2]; rfl)) rfl rfl rfl rfl rfl rfl rfl rfl (w8_zero.1 hs.1.1).symm (blank0 hs.1.2).symm hs.2.symm
  rw [if_neg k2]
  by_cases k4 : w8 x.kind = 4
  · rw [if_pos k4]
    have hk : fieldsF x.kind = 11 := by unfold fieldsF; rw [if_neg k1, if_neg k2, if_pos k4]
    obtain ⟨q1, q2, q3⟩ := h4 k4
    rw [if_neg (by omega), if_neg q2]
    rw [hk, not11] at hs
    simp only [Bool.not_eq_false', decide_eq_true_eq, Bool.and_eq_true] at hs
    congr 1
    exact tx_ext (kind_of (show w8 4 = w8 x.kind by rw [k4]; rfl)) rfl rfl rfl rfl rfl rfl (w8_zero.1 hs.1.1).symm (w64_zero.1 hs.1.2).symm (by simp) (keep_blank q1 q3) hs.2.symm
  rw [if_neg k4]
  by_cases k3 : w8 x.kind = 3
  · rw [if_pos k3]
    have hk : fieldsF x.kind = 16 := by unfold fieldsF; rw [if_neg k1, if_neg k2, if_neg k4, if_pos (.inl k3)]
    rw [hk, not16] at hs
    simp only [Bool.not_eq_false', decide_eq_true_eq, Bool.and_eq_true] at hs
    congr 1
    exact tx_ext (kind_of (show w8 3 = w8 x.kind by rw [k3]; rfl)) rfl rfl rfl rfl (w8_zero.1 hs.1).symm (w8_zero.1 hs.2.1).symm (w8_zero.1 hs.2.2.1.1).symm (w64_zero.1 hs.2.2.1.2).symm (w8_zero.1 hs.2.2.2.1).symm (blank0 hs.2.2.2.2).symm rfl
  rw [if_neg k3]
  by_cases k5 : w8 x.kind = 5
  · rw [if_pos k5]
    have hk : fieldsF x.kind = 16 := by unfold fieldsF; rw [if_neg k1, if_neg k2, if_neg k4, if_pos (.inr k5)]
    rw [hk, not16] at hs
    simp only [Bool.not_eq_false', decide_eq_true_eq, Bool.and_eq_true] at hs
    congr 1
    exact tx_ext (kind_of (show w8 5 = w8 x.kind by rw [k5]; rfl)) rfl (h5 k5) rfl rfl (w8_zero.1 hs.1).symm (w8_zero.1 hs.2.1).symm (w8_zero.1 hs.2.2.1.1).symm (w64_zero.1 hs.2.2.1.2).symm (w8_zero.1 hs.2.2.2.1).symm (blank0 hs.2.2.2.2).symm rfl
  exact absurd (by unfold fieldsF; rw [if_neg k1, if_neg k2, if_neg k4, if_neg (by rintro (h | h); exact k3 h; exact k5 h)]) hf
theorem rebuild_clean {x y : Tx} (h : rebuildF x = (y, 0)) : strayV y = 0 := by
  rw [stray_eq]
  unfold rebuildF at h
  have hz : w8 0 = 0 := rfl
  have hz64 : w64 0 = 0 := rfl
  by_cases k1 : w8 x.kind = 1
  · rw [if_pos k1] at h
    injection h with h _
    subst h
    rw [show fieldsF 1 = 5 from rfl, not5]
    exact ⟨rfl, by simp [Tx.zero, hz, blank_zero], by simp [Tx.zero]⟩
  rw [if_neg k1] at h
  by_cases k2 : w8 x.kind = 2
  · rw [if_pos k2] at h
    injection h with h _
    subst h
    rw [show fieldsF 2 = 7 from rfl, not7]
    exact ⟨by simp [Tx.zero, hz, blank_zero], by simp [Tx.zero]⟩
  rw [if_neg k2] at h
  by_cases k4 : w8 x.kind = 4
  · rw [if_pos k4] at h
    by_cases q1 : 32 < x.size.toNat
    · rw [if_pos q1] at h
      injection h with _ h
      exact absurd h (by decide)
    rw [if_neg q1] at h
    by_cases q2 : x.size.toNat = 0
    · rw [if_pos q2] at h
      injection h with _ h
      exact absurd h (by decide)
    rw [if_neg q2] at h
    injection h with h _
    subst h
    rw [show fieldsF 4 = 11 from rfl, not11]
    exact ⟨by simp [Tx.zero, hz, hz64], by simp [Tx.zero]⟩
  rw [if_neg k4] at h
  by_cases k3 : w8 x.kind = 3
  · rw [if_pos k3] at h
    injection h with h _
    subst h
    rw [show fieldsF 3 = 16 from rfl, not16]
    exact ⟨rfl, rfl, by simp [Tx.zero, hz, hz64], by simp [Tx.zero, hz, blank_zero]⟩
  rw [if_neg k3] at h
  by_cases k5 : w8 x.kind = 5
  · rw [if_pos k5] at h
    injection h with h _
    subst h
    rw [show fieldsF 5 = 16 from rfl, not16]
    exact ⟨rfl, rfl, by simp [Tx.zero, hz, hz64], by simp [Tx.zero, hz, blank_zero]⟩
  rw [if_neg k5] at h
  injection h with _ h
  exact absurd h (by decide)
end Go.Proofs.Qxb6500786a
