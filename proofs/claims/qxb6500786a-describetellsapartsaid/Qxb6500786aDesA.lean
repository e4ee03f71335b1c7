import Derived.Test.Qxb6500786aBldW
import Derived.Test.Qxb6500786aDpl
import Derived.StillTailTactics
import Derived.Deep.QuietTactic
import Derived.BigQuiet
import Derived.Deep.RegionHeld
import Derived.Deep.CutRange
import Derived.Laws.ResultCell
import Derived.Laws.Rows
import Derived.DeepKeys
import Derived.DataBytes
import Derived.Laws.StructEq
import Derived.Laws.AppendOwn
set_option linter.unusedSimpArgs false
set_option linter.unusedVariables false
namespace Go.Proofs.Qxb6500786a
open Go.RowKit Go.Blk
attribute [local go_sem ↓] execOp_load execOp_store execOp_alloc
attribute [local go_sem] Try.ld33 Try.st33 Try.ld24 Try.st24 Try.ld29 Try.st29 Try.ld30 Try.st30 Try.ld31 Try.st31 Try.ld5 Try.st5 Try.ld28 Try.st28 Try.ld27 Try.st27 Try.ld26 Try.st26 Try.ld2 Try.st2 Try.ld3 Try.st3 Try.ld4 Try.st4 Try.ld9 Try.st9 Try.ld12 Try.st12 Try.ld21 Try.st21 Try.ld22 Try.st22 Try.ld41 Try.st41 Try.ld50 Try.st50 Try.ld55 Try.st55 Try.ld63 Try.st63 Try.ld78 Try.st78 Try.ld87 Try.st87 Try.ld91 Try.st91 Try.ld32 Try.st32 Try.ld47 Try.st47 Try.ld52 Try.st52 Try.ld71 Try.st71 Try.ld35 Try.st35 Try.ld37 Try.st37 Try.ld39 Try.st39 Try.al32 Try.al47 Try.al52 Try.al71 Try.al35 Try.al37 Try.al39
attribute [local go_sem] Message.length_enc Message.ok_enc Message.all_get Message.all_set Message.kind_get Message.kind_set Message.from__get Message.from__set Message.to__get Message.to__set Message.sender_get Message.sender_set Message.receiver_get Message.receiver_set Message.seq_get Message.seq_set Message.token_get Message.token_set Message.amount_get Message.amount_set Message.size_get Message.size_set Message.payload_get Message.payload_set Tx.length_enc Tx.ok_enc Tx.all_get Tx.all_set Tx.kind_get Tx.kind_set Tx.chain_get Tx.chain_set Tx.from__get Tx.from__set Tx.nonce_get Tx.nonce_set Tx.fee_get Tx.fee_set Tx.to__get Tx.to__set Tx.dest_get Tx.dest_set Tx.token_get Tx.token_set Tx.amount_get Tx.amount_set Tx.size_get Tx.size_set Tx.payload_get Tx.payload_set Tx.msg_get Tx.msg_set Tx.msg_kind_get Tx.msg_kind_set Tx.msg_from__get Tx.msg_from__set Tx.msg_to__get Tx.msg_to__set Tx.msg_sender_get Tx.msg_sender_set Tx.msg_receiver_get Tx.msg_receiver_set Tx.msg_seq_get Tx.msg_seq_set Tx.msg_token_get Tx.msg_token_set Tx.msg_amount_get Tx.msg_amount_set Tx.msg_size_get Tx.msg_size_set Tx.msg_payload_get Tx.msg_payload_set GOp.length_enc GOp.ok_enc GOp.all_get GOp.all_set GOp.kind_get GOp.kind_set GOp.tx_get GOp.tx_set GOp.txs_get GOp.txs_set GOp.gas_get GOp.gas_set GOp.acct_get GOp.acct_set GOp.token_get GOp.token_set GOp.chain_get GOp.chain_set GOp.seq_get GOp.seq_set GOp.tx_kind_get GOp.tx_kind_set GOp.tx_chain_get GOp.tx_chain_set GOp.tx_from__get GOp.tx_from__set GOp.tx_nonce_get GOp.tx_nonce_set GOp.tx_fee_get GOp.tx_fee_set GOp.tx_to__get GOp.tx_to__set GOp.tx_dest_get GOp.tx_dest_set GOp.tx_token_get GOp.tx_token_set GOp.tx_amount_get GOp.tx_amount_set GOp.tx_size_get GOp.tx_size_set GOp.tx_payload_get GOp.tx_payload_set GOp.tx_msg_get GOp.tx_msg_set GOp.tx_msg_kind_get GOp.tx_msg_kind_set GOp.tx_msg_from__get GOp.tx_msg_from__set GOp.tx_msg_to__get GOp.tx_msg_to__set GOp.tx_msg_sender_get GOp.tx_msg_sender_set GOp.tx_msg_receiver_get GOp.tx_msg_receiver_set GOp.tx_msg_seq_get GOp.tx_msg_seq_set GOp.tx_msg_token_get GOp.tx_msg_token_set GOp.tx_msg_amount_get GOp.tx_msg_amount_set GOp.tx_msg_size_get GOp.tx_msg_size_set GOp.tx_msg_payload_get GOp.tx_msg_payload_set
attribute [local go_sem] size_put size_ext blk_put free_put blk_alloc free_alloc blk_drew free_drew blk_ext free_ext lookOr_some putOr_some segAt_some cellAt_some storeIn_some put_put put_alloc_new length_arr ok_arr_u8 ok_arr_u32 ok_arr_u64 ok_arr_i64 ok_arr_sl cellsV_agg cellsV_int cellsV_bool cellsV_string cellsV_pointer cellsV_slice cellsV_sl ok_int ok_bool ok_string ok_pointer ok_slice ok_sl toList_arr seg_arr set_arr nth_splice nth_splice0 seg_splice seg_splice0 splice_splice splice_splice0 length_splice_if
attribute [local go_sem ↓] execOp_box
attribute [local go_sem] box_run nth_arr_u8 put_arr_u8
/-- Where an appended row lies: where it lay, or in a new block. -/
theorem append_block_gen {P : Program} (w : World) (base : Nat) (t ty e : TypeId) (i : TypeInfo) (z : Value) (size bytes : Nat) (ht : P.underlying t = some (.slice e)) (hi : P.info? e = some i) (hz : i.zero = some z)
    (hsize : i.size = size) (hby : i.bytes = bytes) (hzs : z.cells.size = size) (hsz : 0 < size)
    (v : Value) (n : Nat) (xs : List Value) (hown : w.ownsRow base e size v n xs)
    (a : Addr) (m c : Nat) (news : List Value) (hl : news.length = m * size) (hnews : ∀ j u, news[j]? = some u → w.cell? (a.add j) = some u) (h1 : ∀ u ∈ news, u.oneCell' = true)
    (h63 : n + m ≤ maxLen) (hbytes : (n + m) * bytes ≤ 140737488355328) (v' : Value) (w' : World) (hrun : (Builtin.append_ #[t, t] ty #[v, .slice (some a) m c]).run P w = .ok v' w') :
    v'.ownBlock = v.ownBlock ∨ v'.ownBlock = some w.heap.size := by
  subst hsize
  subst hby
  have hsmall : n + m ≤ 9223372036854775807 := by simp only [maxLen] at h63; omega
  rcases hown.2 with ⟨rfl, rfl⟩ | ⟨g, cap, cur, rfl, hbg, hg, hnc, hcm, hcs, htake⟩
  · by_cases hm : m = 0
    · subst hm
      have hn : news = [] := List.eq_nil_of_length_eq_zero (by simpa using hl)
      subst hn
      have hr : (Builtin.append_ #[t, t] ty #[.slice none 0 0, .slice (some a) 0 c]).run P w = .ok (.slice none 0 0) w := by
        simp [Builtin.append_, run_underlying ht, sizeOf, typeInfo, hi, Builtin.lenOf, Builtin.firstCells, loadCells, loadCellsFrom]
      rw [hr] at hrun
      injection hrun with h2 h3
      subst h2
      exact .inl rfl
    · have hr := run_append_nil (P := P) w t ty e i z ht hi hz a m c news hl hnews (by omega) (by omega) (by have hb := hbytes; simp only [Nat.zero_add] at hb; omega)
      rw [hr] at hrun
      injection hrun with h2 h3
      subst h2
      exact .inr rfl
  · by_cases hroom : n + m ≤ cap
    · have hfit : n * i.size + news.length ≤ cur.size := by rw [hl, hcs, ← Nat.add_mul]; exact Nat.mul_le_mul_right _ hroom
      have hr := run_append_room (P := P) w t ty e i ht hi g n cap cur hg a m c news hl hnews h1 hroom hfit
      rw [hr] at hrun
      injection hrun with h2 h3
      subst h2
      exact .inl rfl
    · have holds : ∀ j u, xs[j]? = some u → w.cell? ((⟨g, 0, none⟩ : Addr).add j) = some u := hown.cells (g := g) rfl
      have hr := run_append_grow (P := P) w t ty e i z ht hi hz ⟨g, 0, none⟩ n cap xs hown.1 holds a m c news hl hnews (by omega) (by omega) (growslice_fits (by omega) hbytes)
      rw [hr] at hrun
      injection hrun with h2 h3
      subst h2
      exact .inr rfl
theorem app26 (base : Nat) (w : World) (ty : TypeId) (v : Value) (K : List Tx) (x : Tx) (g c : Nat) (h : w.ownsRow base 37 83 v K.length (K.flatMap Tx.enc)) (hg : blk w g = some x.enc) (hb : base ≤ w.heap.size) (hl : K.length ≤ 10000000000) :
    ∃ v' w', (Builtin.append_ #[26, 26] ty #[v, .slice (some ⟨g, 0, none⟩) 1 c]).run Try.prog w = .ok v' w' ∧ w'.ownsRow base 37 83 v' (K ++ [x]).length ((K ++ [x]).flatMap Tx.enc) ∧ w.grownBy w' v.ownBlock ∧ (v'.ownBlock = v.ownBlock ∨ v'.ownBlock = some w.heap.size) := by
  obtain ⟨i, hi, hz, hsz, hby⟩ := info37
  have hnews : ∀ j u, x.enc[j]? = some u → w.cell? ((⟨g, 0, none⟩ : Addr).add j) = some u := fun j u hu => by
    rw [add_addr, cell_blk hg, Nat.zero_add]
    exact hu
  have hone : ∀ u ∈ x.enc, u.oneCell' = true := fun u hu => List.all_eq_true.1 (Tx.one_enc x) u hu
  have hzc : (Value.agg Tx.zero.enc.toArray).cells.size = 83 := by simp [Value.cells, Tx.length_enc]
  obtain ⟨v', w', hr, h1, h2, _⟩ := run_append_own (P := Try.prog) w base 26 ty 37 i _ 83 152 Try.underlying26 hi hz hsz hby hzc (by decide) v K.length _ h ⟨g, 0, none⟩ 1 c x.enc (by rw [Tx.length_enc]) hnews hone (by simp only [maxLen]; omega) (by omega) hb
  refine ⟨v', w', hr, ?_, h2, ?_⟩
  · rw [List.length_append, List.flatMap_append]
    simpa using h1
  · exact append_block_gen (P := Try.prog) w base 26 ty 37 i _ 83 152 Try.underlying26 hi hz hsz hby hzc (by decide) v K.length _ h ⟨g, 0, none⟩ 1 c x.enc (by rw [Tx.length_enc]) hnews hone (by simp only [maxLen]; omega) (by omega) v' w' hr
def eqX (a b : Tx) : Bool := decide (a = b)
def eqM (a b : Message) : Bool := decide (a = b)
def cmpEq (t : TypeId) (x y : Operand) (u v : Value) : Sem Next := do pure (.value (← (do eqGuard .eql t x y u v; binOp .eql t u v)))
theorem execOp_eql35 (a : Act) (dst : Option Tmp) (x y : Operand) (ty : TypeId) (pos : String) (after : Array Edge) (guard : Option (Nat × Bool)) :
    execOp a.eval { dst, op := .binOp .eql 35 x y 35, type := ty, pos, after, guard } = cmpEq 35 x y (a.eval x) (a.eval y) := rfl
theorem execOp_eql37 (a : Act) (dst : Option Tmp) (x y : Operand) (ty : TypeId) (pos : String) (after : Array Edge) (guard : Option (Nat × Bool)) :
    execOp a.eval { dst, op := .binOp .eql 37 x y 37, type := ty, pos, after, guard } = cmpEq 37 x y (a.eval x) (a.eval y) := rfl
theorem eql35 (w : World) (x y : Operand) (a b : Message) : (cmpEq 35 x y (.agg a.enc.toArray) (.agg b.enc.toArray)).run Try.prog w = .ok (.value (.bool (eqM a b))) w := by
  have h1 : (binOp .eql 35 (.agg a.enc.toArray) (.agg b.enc.toArray)).run Try.prog w = .ok (.bool (eqM a b)) w := by rw [run_eql_struct, eq35 w 9997]; rfl
  have ht : Try.prog.eqGuardType Try.prog.depth 35 = false := by kernel_rfl
  have hg : (eqGuard .eql 35 x y (.agg a.enc.toArray) (.agg b.enc.toArray)).run Try.prog w = .ok () w := by
    unfold eqGuard
    simp [Sem.run_bind, run_program, ht]
  unfold cmpEq
  simp only [Sem.run_bind, hg, Result.andThen_ok, h1]
  rfl
theorem eql37 (w : World) (x y : Operand) (a b : Tx) : (cmpEq 37 x y (.agg a.enc.toArray) (.agg b.enc.toArray)).run Try.prog w = .ok (.value (.bool (eqX a b))) w := by
  have h1 : (binOp .eql 37 (.agg a.enc.toArray) (.agg b.enc.toArray)).run Try.prog w = .ok (.bool (eqX a b)) w := by rw [run_eql_struct, eq37 w 9996]; rfl
  have ht : Try.prog.eqGuardType Try.prog.depth 37 = false := by kernel_rfl
  have hg : (eqGuard .eql 37 x y (.agg a.enc.toArray) (.agg b.enc.toArray)).run Try.prog w = .ok () w := by
    unfold eqGuard
    simp [Sem.run_bind, run_program, ht]
  unfold cmpEq
  simp only [Sem.run_bind, hg, Result.andThen_ok, h1]
  rfl
theorem sameB_of {α : Type} [DecidableEq α] (f : α → ByteArray) (a b : α) (h : f a = f b → a = b) : ((f a).toList == (f b).toList) = decide (a = b) := by
  by_cases he : a = b
  · subst he; simp
  · rw [decide_eq_false he]
    apply Bool.eq_false_iff.2
    intro h1
    have h2 := eq_of_beq h1
    rw [ByteArray.toList_eq, ByteArray.toList_eq] at h2
    exact he (h (bl_inj h2))
theorem same_X {a b : Tx} (ha : Sound a) (hb : Sound b) : ((descX a).toList == (descX b).toList) = eqX a b := sameB_of descX a b (descX_inj ha hb)
theorem same_M {a b : Message} (ha : MsgOk a) (hb : MsgOk b) : ((descM a).toList == (descM b).toList) = eqM a b := sameB_of descM a b (descM_inj ha hb)
theorem seg_in {C D : List Value} {o n p m : Nat} (h : seg C o n = D) (hp : p + m ≤ n) : seg C (o + p) m = seg D p m := by
  subst h
  unfold seg
  rw [List.drop_take, List.take_take, List.drop_drop, Nat.min_eq_left (by omega)]
def SRow (B : Nat) (W : World) (v : Value) (K : List Tx) (N : Nat) : Prop := W.ownsRow B 37 83 v K.length (K.flatMap Tx.enc) ∧ (∀ x ∈ K, Sound x) ∧ K.length ≤ N
theorem SRow.ext {B : Nat} {W W' : World} {v : Value} {K : List Tx} {N : Nat} (h : SRow B W v K N) (he : W.Extends W') : SRow B W' v K N :=
  ⟨row_keep h.1 (fun k hk => he.block k (row_at h.1 k hk).2.1), h.2⟩
theorem SRow.mono {B : Nat} {W : World} {v : Value} {K : List Tx} {N N' : Nat} (h : SRow B W v K N) (hn : N ≤ N') : SRow B W v K N' := ⟨h.1, h.2.1, Nat.le_trans h.2.2 hn⟩
end Go.Proofs.Qxb6500786a
