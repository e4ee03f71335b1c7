import Derived.Test.Qxb6500786aSh2
import Derived.StillTailTactics
import Derived.Deep.QuietTactic
import Derived.BigQuiet
import Derived.Deep.RegionHeld
import Derived.Deep.CutRange
import Derived.Laws.ResultCell
import Derived.Laws.Rows
import Derived.DeepKeys
import Derived.DataBytes
import Derived.Laws.StructEq
set_option linter.unusedSimpArgs false
set_option linter.unusedVariables false
namespace Go.Proofs.Qxb6500786a
open Go.RowKit Go.Blk
attribute [local go_sem ↓] execOp_load execOp_store execOp_alloc
attribute [local go_sem] Try.ld33 Try.st33 Try.ld24 Try.st24 Try.ld29 Try.st29 Try.ld30 Try.st30 Try.ld31 Try.st31 Try.ld5 Try.st5 Try.ld28 Try.st28 Try.ld27 Try.st27 Try.ld26 Try.st26 Try.ld2 Try.st2 Try.ld3 Try.st3 Try.ld4 Try.st4 Try.ld9 Try.st9 Try.ld12 Try.st12 Try.ld21 Try.st21 Try.ld22 Try.st22 Try.ld41 Try.st41 Try.ld50 Try.st50 Try.ld55 Try.st55 Try.ld63 Try.st63 Try.ld78 Try.st78 Try.ld87 Try.st87 Try.ld91 Try.st91 Try.ld32 Try.st32 Try.ld47 Try.st47 Try.ld52 Try.st52 Try.ld71 Try.st71 Try.ld35 Try.st35 Try.ld37 Try.st37 Try.ld39 Try.st39 Try.al32 Try.al47 Try.al52 Try.al71 Try.al35 Try.al37 Try.al39
attribute [local go_sem] Message.length_enc Message.ok_enc Message.all_get Message.all_set Message.kind_get Message.kind_set Message.from__get Message.from__set Message.to__get Message.to__set Message.sender_get Message.sender_set Message.receiver_get Message.receiver_set Message.seq_get Message.seq_set Message.token_get Message.token_set Message.amount_get Message.amount_set Message.size_get Message.size_set Message.payload_get Message.payload_set Tx.length_enc Tx.ok_enc Tx.all_get Tx.all_set Tx.kind_get Tx.kind_set Tx.chain_get Tx.chain_set Tx.from__get Tx.from__set Tx.nonce_get Tx.nonce_set Tx.fee_get Tx.fee_set Tx.to__get Tx.to__set Tx.dest_get Tx.dest_set Tx.token_get Tx.token_set Tx.amount_get Tx.amount_set Tx.size_get Tx.size_set Tx.payload_get Tx.payload_set Tx.msg_get Tx.msg_set Tx.msg_kind_get Tx.msg_kind_set Tx.msg_from__get Tx.msg_from__set Tx.msg_to__get Tx.msg_to__set Tx.msg_sender_get Tx.msg_sender_set Tx.msg_receiver_get Tx.msg_receiver_set Tx.msg_seq_get Tx.msg_seq_set Tx.msg_token_get Tx.msg_token_set Tx.msg_amount_get Tx.msg_amount_set Tx.msg_size_get Tx.msg_size_set Tx.msg_payload_get Tx.msg_payload_set GOp.length_enc GOp.ok_enc GOp.all_get GOp.all_set GOp.kind_get GOp.kind_set GOp.tx_get GOp.tx_set GOp.txs_get GOp.txs_set GOp.gas_get GOp.gas_set GOp.acct_get GOp.acct_set GOp.token_get GOp.token_set GOp.chain_get GOp.chain_set GOp.seq_get GOp.seq_set GOp.tx_kind_get GOp.tx_kind_set GOp.tx_chain_get GOp.tx_chain_set GOp.tx_from__get GOp.tx_from__set GOp.tx_nonce_get GOp.tx_nonce_set GOp.tx_fee_get GOp.tx_fee_set GOp.tx_to__get GOp.tx_to__set GOp.tx_dest_get GOp.tx_dest_set GOp.tx_token_get GOp.tx_token_set GOp.tx_amount_get GOp.tx_amount_set GOp.tx_size_get GOp.tx_size_set GOp.tx_payload_get GOp.tx_payload_set GOp.tx_msg_get GOp.tx_msg_set GOp.tx_msg_kind_get GOp.tx_msg_kind_set GOp.tx_msg_from__get GOp.tx_msg_from__set GOp.tx_msg_to__get GOp.tx_msg_to__set GOp.tx_msg_sender_get GOp.tx_msg_sender_set GOp.tx_msg_receiver_get GOp.tx_msg_receiver_set GOp.tx_msg_seq_get GOp.tx_msg_seq_set GOp.tx_msg_token_get GOp.tx_msg_token_set GOp.tx_msg_amount_get GOp.tx_msg_amount_set GOp.tx_msg_size_get GOp.tx_msg_size_set GOp.tx_msg_payload_get GOp.tx_msg_payload_set
attribute [local go_sem] size_put size_ext blk_put free_put blk_alloc free_alloc blk_drew free_drew blk_ext free_ext lookOr_some putOr_some segAt_some cellAt_some storeIn_some put_put put_alloc_new length_arr ok_arr_u8 ok_arr_u32 ok_arr_u64 ok_arr_i64 ok_arr_sl cellsV_agg cellsV_int cellsV_bool cellsV_string cellsV_pointer cellsV_slice cellsV_sl ok_int ok_bool ok_string ok_pointer ok_slice ok_sl toList_arr seg_arr set_arr nth_splice nth_splice0 seg_splice seg_splice0 splice_splice splice_splice0 length_splice_if
attribute [local go_sem ↓] execOp_box
attribute [local go_sem] box_run nth_arr_u8 put_arr_u8
theorem eqFields_all {P : Program} (w : World) (d : Nat) (xs ys : Array Value) (r : Nat → Bool) : ∀ fs : List Field, (∀ f ∈ fs, f.name ≠ "_" ∧ ∃ a b, (part f.type xs f.offset).run P w = .ok a w ∧ (part f.type ys f.offset).run P w = .ok b w ∧ (Op.equalIn d f.type a b).run P w = .ok (r f.offset) w) → (Op.eqFields d xs ys fs).run P w = .ok ((fs.map (fun f => f.offset)).all r) w
  | [], _ => rfl
  | f :: fs, h => by
    obtain ⟨hn, a, b, h1, h2, h3⟩ := h f (List.mem_cons_self ..)
    have ih := eqFields_all w d xs ys r fs fun f' hf => h f' (List.mem_cons_of_mem _ hf)
    unfold Op.eqFields
    rw [if_pos hn]
    simp only [Sem.run_bind, h1, h2, h3, Result.andThen_ok]
    rw [List.map_cons, List.all_cons]
    cases hr : r f.offset with
    | true => simpa using ih
    | false => simp
theorem cells32' : Try.prog.cellsOf 32 = 32 := by kernel_rfl
theorem cells5' : Try.prog.cellsOf 5 = 1 := by kernel_rfl
def litU8 (x : UInt8) : Lit := .int .u8 (w8 x)
theorem wf_u8 (x : UInt8) : (litU8 x).wf = true := by
  have := w8_lt x
  simp [litU8, Lit.wf, IntKind.min, IntKind.max, IntKind.signed, IntKind.bits, w8]
  omega
theorem lits32 (v : Vector UInt8 32) : Try.prog.keyLits 2 32 (arr u8v v) = some (v.toList.map litU8) := by
  unfold Program.keyLits
  rw [Try.underlying32]
  simp only [cells32', cells5', length_arr, if_true]
  rw [mapM_some_of_forall (g := fun i => [litU8 (v.toList.getD i 0)])]
  · rw [Option.map_some]
    congr 1
    have e1 : ∀ n, ((List.range n).map (fun i => [litU8 (v.toList.getD i 0)])).flatten = (List.range n).map (fun i => litU8 (v.toList.getD i 0)) := fun n => by
      induction n with
      | zero => rfl
      | succ n ih => rw [List.range_succ, List.map_append, List.map_append, List.flatten_append, ih]; rfl
    rw [e1]
    apply List.ext_getElem?
    intro i
    by_cases hi : i < 32
    · simp [hi]
    · rw [List.getElem?_eq_none (by simp; omega), List.getElem?_eq_none (by simp; omega)]
  · intro i hi
    have hi' : i < 32 := by simpa using hi
    have hc : ((arr u8v v).drop (i * 1)).take 1 = [.int .u8 (w8 v[i])] := by
      apply List.ext_getElem?
      intro j
      rw [List.getElem?_take, Nat.mul_one]
      cases j with
      | zero => simp [List.getElem?_drop, arr_at _ _ hi', u8v]
      | succ j => simp
    rw [hc]
    unfold Program.keyLits
    rw [Try.underlying5]
    have hw := wf_u8 v[i]
    unfold litU8 at hw ⊢
    simp [hw, hi']
theorem lit_inj (a b : Vector UInt8 32) : a.toList.map litU8 = b.toList.map litU8 ↔ a = b := by
  constructor
  · intro h
    apply Vector.ext
    intro i hi
    have h1 := congrArg (fun l => l[i]?) h
    simp [hi, litU8] at h1
    unfold w8 at h1
    exact UInt8.toNat_inj.1 (by omega)
  · rintro rfl; rfl
theorem step32 (w : World) (d : Nat) {xs ys : Array Value} {off : Nat} {a b : Vector UInt8 32} (ha : (xs.toList.drop off).take 32 = arr u8v a) (hb : (ys.toList.drop off).take 32 = arr u8v b) :
    ∃ u v, (part 32 xs off).run Try.prog w = .ok u w ∧ (part 32 ys off).run Try.prog w = .ok v w ∧ (Op.equalIn (d + 2) 32 u v).run Try.prog w = .ok (decide (a = b)) w := by
  have hk : Try.prog.keyTypeAt 2 32 = true := by kernel_rfl
  obtain ⟨u, v, r, p1, p2, p3, p4⟩ := run_step_deep (P := Try.prog) w (run_equalIn_deep d 2 32 hk) (D := 2) (D' := 2) (off := off) (xs := xs) (ys := ys) (by rw [cells32', ha]; exact lits32 a) (by rw [cells32', hb]; exact lits32 b)
  refine ⟨u, v, p1, p2, ?_⟩
  rw [p3]
  congr 1
  rw [lit_inj] at p4
  by_cases h : a = b
  · rw [p4.2 h, decide_eq_true h]
  · rw [decide_eq_false h]
    cases r with
    | true => exact absurd (p4.1 rfl) h
    | false => rfl
theorem u8_step (w : World) (d : Nat) (t : TypeId) (hp : Try.prog.plainKey t = true) (hu : Try.prog.underlying t = some (.int .u8)) {xs ys : Array Value} {off : Nat} {a b : UInt8} (ha : xs[off]? = some (.int .u8 (w8 a))) (hb : ys[off]? = some (.int .u8 (w8 b))) :
    ∃ u v, (part t xs off).run Try.prog w = .ok u w ∧ (part t ys off).run Try.prog w = .ok v w ∧ (Op.equalIn (d + 1) t u v).run Try.prog w = .ok (decide (a = b)) w := by
  refine ⟨_, _, run_part_plain w hp ha, run_part_plain w hp hb, ?_⟩
  rw [run_equalIn_int w d t .u8 .u8 _ _ hu]
  congr 1
  by_cases h : a = b
  · rw [h, decide_eq_true rfl]; simp
  · rw [decide_eq_false h]; simp; exact fun e => h (w8_inj e)
theorem u64_step (w : World) (d : Nat) (t : TypeId) (hp : Try.prog.plainKey t = true) (hu : Try.prog.underlying t = some (.int .u64)) {xs ys : Array Value} {off : Nat} {a b : UInt64} (ha : xs[off]? = some (.int .u64 (w64 a))) (hb : ys[off]? = some (.int .u64 (w64 b))) :
    ∃ u v, (part t xs off).run Try.prog w = .ok u w ∧ (part t ys off).run Try.prog w = .ok v w ∧ (Op.equalIn (d + 1) t u v).run Try.prog w = .ok (decide (a = b)) w := by
  refine ⟨_, _, run_part_plain w hp ha, run_part_plain w hp hb, ?_⟩
  rw [run_equalIn_int w d t .u64 .u64 _ _ hu]
  congr 1
  by_cases h : a = b
  · rw [h, decide_eq_true rfl]; simp
  · rw [decide_eq_false h]; simp; exact fun e => h (w64_inj e)
theorem fields35 : (Try.prog.fieldsOf 35).toList.map (fun f => (f.type, f.offset)) = [(33, 0), (24, 1), (24, 2), (29, 3), (29, 4), (30, 5), (31, 6), (30, 7), (5, 8), (32, 9)] := by kernel_rfl
theorem named35 : ∀ f ∈ (Try.prog.fieldsOf 35).toList, f.name ≠ "_" := by
  have h : ((Try.prog.fieldsOf 35).toList.all fun f => f.name != "_") = true := by kernel_rfl
  intro f hf
  simpa using List.all_eq_true.1 h f hf
theorem arr_at' {L : List Value} {i : Nat} {v : Value} (h : nth L i = some v) : L.toArray[i]? = some v := by
  unfold nth at h
  rw [List.getElem?_toArray]
  exact h
def rM (a b : Message) : Nat → Bool
  | 0 => decide (a.kind = b.kind) | 1 => decide (a.from_ = b.from_) | 2 => decide (a.to_ = b.to_) | 3 => decide (a.sender = b.sender) | 4 => decide (a.receiver = b.receiver)
  | 5 => decide (a.seq = b.seq) | 6 => decide (a.token = b.token) | 7 => decide (a.amount = b.amount) | 8 => decide (a.size = b.size) | 9 => decide (a.payload = b.payload) | _ => true
instance : DecidableEq Message := fun a b => decidable_of_iff (a.kind = b.kind ∧ a.from_ = b.from_ ∧ a.to_ = b.to_ ∧ a.sender = b.sender ∧ a.receiver = b.receiver ∧ a.seq = b.seq ∧ a.token = b.token ∧ a.amount = b.amount ∧ a.size = b.size ∧ a.payload = b.payload) (by
  constructor
  · rintro ⟨h1, h2, h3, h4, h5, h6, h7, h8, h9, h10⟩
    cases a; cases b; simp_all
  · rintro rfl; simp)
theorem rM_all (a b : Message) : [0, 1, 2, 3, 4, 5, 6, 7, 8, 9].all (rM a b) = decide (a = b) := by
  apply Bool.eq_iff_iff.2
  simp only [List.all_cons, List.all_nil, Bool.and_true, Bool.and_eq_true, rM, decide_eq_true_eq]
  constructor
  · rintro ⟨h1, h2, h3, h4, h5, h6, h7, h8, h9, h10⟩
    cases a; cases b; simp_all
  · rintro rfl; simp
theorem eq35 (w : World) (d : Nat) (a b : Message) : (Op.equalIn (d + 3) 35 (.agg a.enc.toArray) (.agg b.enc.toArray)).run Try.prog w = .ok (decide (a = b)) w := by
  rw [run_equalIn_struct w (d + 2) 35 _ _ (by kernel_rfl) (by kernel_rfl), eqFields_all w (d + 2) _ _ (rM a b) _ ?_]
  · rw [← rM_all]
    congr 2
  intro f hf
  refine ⟨named35 f hf, ?_⟩
  have hm : (f.type, f.offset) ∈ (Try.prog.fieldsOf 35).toList.map (fun f => (f.type, f.offset)) := List.mem_map.2 ⟨f, hf, rfl⟩
  rw [fields35] at hm
  simp only [List.mem_cons, Prod.mk.injEq, List.mem_nil_iff, or_false] at hm
  rcases hm with ⟨h1, h2⟩ | ⟨h1, h2⟩ | ⟨h1, h2⟩ | ⟨h1, h2⟩ | ⟨h1, h2⟩ | ⟨h1, h2⟩ | ⟨h1, h2⟩ | ⟨h1, h2⟩ | ⟨h1, h2⟩ | ⟨h1, h2⟩ <;> rw [h1, h2]
  · exact u8_step w (d + 1) 33 (by kernel_rfl) Try.underlying33 (arr_at' (Message.kind_get a)) (arr_at' (Message.kind_get b))
  · exact u8_step w (d + 1) 24 (by kernel_rfl) Try.underlying24 (arr_at' (Message.from__get a)) (arr_at' (Message.from__get b))
  · exact u8_step w (d + 1) 24 (by kernel_rfl) Try.underlying24 (arr_at' (Message.to__get a)) (arr_at' (Message.to__get b))
  · exact u8_step w (d + 1) 29 (by kernel_rfl) Try.underlying29 (arr_at' (Message.sender_get a)) (arr_at' (Message.sender_get b))
  · exact u8_step w (d + 1) 29 (by kernel_rfl) Try.underlying29 (arr_at' (Message.receiver_get a)) (arr_at' (Message.receiver_get b))
  · exact u64_step w (d + 1) 30 (by kernel_rfl) Try.underlying30 (arr_at' (Message.seq_get a)) (arr_at' (Message.seq_get b))
  · exact u8_step w (d + 1) 31 (by kernel_rfl) Try.underlying31 (arr_at' (Message.token_get a)) (arr_at' (Message.token_get b))
  · exact u64_step w (d + 1) 30 (by kernel_rfl) Try.underlying30 (arr_at' (Message.amount_get a)) (arr_at' (Message.amount_get b))
  · exact u8_step w (d + 1) 5 (by kernel_rfl) Try.underlying5 (arr_at' (Message.size_get a)) (arr_at' (Message.size_get b))
  · exact step32 w d (Message.payload_get a) (Message.payload_get b)
theorem fields37 : (Try.prog.fieldsOf 37).toList.map (fun f => (f.type, f.offset)) = [(28, 0), (24, 1), (29, 2), (30, 3), (30, 4), (29, 5), (24, 6), (31, 7), (30, 8), (5, 9), (32, 10), (35, 42)] := by kernel_rfl
theorem named37 : ∀ f ∈ (Try.prog.fieldsOf 37).toList, f.name ≠ "_" := by
  have h : ((Try.prog.fieldsOf 37).toList.all fun f => f.name != "_") = true := by kernel_rfl
  intro f hf
  simpa using List.all_eq_true.1 h f hf
def rT (a b : Tx) : Nat → Bool
  | 0 => decide (a.kind = b.kind) | 1 => decide (a.chain = b.chain) | 2 => decide (a.from_ = b.from_) | 3 => decide (a.nonce = b.nonce) | 4 => decide (a.fee = b.fee) | 5 => decide (a.to_ = b.to_) | 6 => decide (a.dest = b.dest)
  | 7 => decide (a.token = b.token) | 8 => decide (a.amount = b.amount) | 9 => decide (a.size = b.size) | 10 => decide (a.payload = b.payload) | 42 => decide (a.msg = b.msg) | _ => true
instance : DecidableEq Tx := fun a b => decidable_of_iff (a.kind = b.kind ∧ a.chain = b.chain ∧ a.from_ = b.from_ ∧ a.nonce = b.nonce ∧ a.fee = b.fee ∧ a.to_ = b.to_ ∧ a.dest = b.dest ∧ a.token = b.token ∧ a.amount = b.amount ∧ a.size = b.size ∧ a.payload = b.payload ∧ a.msg = b.msg) (by
  constructor
  · rintro ⟨h1, h2, h3, h4, h5, h6, h7, h8, h9, h10, h11, h12⟩
    cases a; cases b; simp_all
  · rintro rfl; simp)
theorem rT_all (a b : Tx) : [0, 1, 2, 3, 4, 5, 6, 7, 8, 9, 10, 42].all (rT a b) = decide (a = b) := by
  apply Bool.eq_iff_iff.2
  simp only [List.all_cons, List.all_nil, Bool.and_true, Bool.and_eq_true, rT, decide_eq_true_eq]
  constructor
  · rintro ⟨h1, h2, h3, h4, h5, h6, h7, h8, h9, h10, h11, h12⟩
    cases a; cases b; simp_all
  · rintro rfl; simp
theorem part35 (w : World) (x : Tx) : (part 35 x.enc.toArray 42).run Try.prog w = .ok (.agg x.msg.enc.toArray) w := by
  have hu : Try.prog.underlying 35 = some (.struct (Try.prog.fieldsOf 35)) := by kernel_rfl
  obtain ⟨i, hi1, hi2⟩ : ∃ i, Try.prog.info? 35 = some i ∧ i.size = 41 := by
    have hq : (Try.prog.info? 35).map (·.size) = some 41 := by kernel_rfl
    cases hx : Try.prog.info? 35 with
    | none => rw [hx] at hq; simp at hq
    | some i => rw [hx] at hq; exact ⟨i, rfl, by simpa using hq⟩
  have he : x.enc.toArray.extract 42 83 = x.msg.enc.toArray := by
    have h := Tx.msg_get x
    unfold seg at h
    rw [← h]
    simp [List.extract_toArray, List.extract_eq_take_drop]
  unfold part isAgg sizeOf
  simp [Sem.run_bind, run_underlying hu, typeInfo, hi1, hi2, run_program, Sem.run_pure]
  exact Tx.msg_get x
theorem eq37 (w : World) (d : Nat) (a b : Tx) : (Op.equalIn (d + 4) 37 (.agg a.enc.toArray) (.agg b.enc.toArray)).run Try.prog w = .ok (decide (a = b)) w := by
  rw [run_equalIn_struct w (d + 3) 37 _ _ (by kernel_rfl) (by kernel_rfl), eqFields_all w (d + 3) _ _ (rT a b) _ ?_]
  · rw [← rT_all]
    congr 2
  intro f hf
  refine ⟨named37 f hf, ?_⟩
  have hm : (f.type, f.offset) ∈ (Try.prog.fieldsOf 37).toList.map (fun f => (f.type, f.offset)) := List.mem_map.2 ⟨f, hf, rfl⟩
  rw [fields37] at hm
  simp only [List.mem_cons, Prod.mk.injEq, List.mem_nil_iff, or_false] at hm
  rcases hm with ⟨h1, h2⟩ | ⟨h1, h2⟩ | ⟨h1, h2⟩ | ⟨h1, h2⟩ | ⟨h1, h2⟩ | ⟨h1, h2⟩ | ⟨h1, h2⟩ | ⟨h1, h2⟩ | ⟨h1, h2⟩ | ⟨h1, h2⟩ | ⟨h1, h2⟩ | ⟨h1, h2⟩ <;> rw [h1, h2]
  · exact u8_step w (d + 2) 28 (by kernel_rfl) Try.underlying28 (arr_at' (Tx.kind_get a)) (arr_at' (Tx.kind_get b))
  · exact u8_step w (d + 2) 24 (by kernel_rfl) Try.underlying24 (arr_at' (Tx.chain_get a)) (arr_at' (Tx.chain_get b))
  · exact u8_step w (d + 2) 29 (by kernel_rfl) Try.underlying29 (arr_at' (Tx.from__get a)) (arr_at' (Tx.from__get b))
  · exact u64_step w (d + 2) 30 (by kernel_rfl) Try.underlying30 (arr_at' (Tx.nonce_get a)) (arr_at' (Tx.nonce_get b))
  · exact u64_step w (d + 2) 30 (by kernel_rfl) Try.underlying30 (arr_at' (Tx.fee_get a)) (arr_at' (Tx.fee_get b))
  · exact u8_step w (d + 2) 29 (by kernel_rfl) Try.underlying29 (arr_at' (Tx.to__get a)) (arr_at' (Tx.to__get b))
  · exact u8_step w (d + 2) 24 (by kernel_rfl) Try.underlying24 (arr_at' (Tx.dest_get a)) (arr_at' (Tx.dest_get b))
  · exact u8_step w (d + 2) 31 (by kernel_rfl) Try.underlying31 (arr_at' (Tx.token_get a)) (arr_at' (Tx.token_get b))
  · exact u64_step w (d + 2) 30 (by kernel_rfl) Try.underlying30 (arr_at' (Tx.amount_get a)) (arr_at' (Tx.amount_get b))
  · exact u8_step w (d + 2) 5 (by kernel_rfl) Try.underlying5 (arr_at' (Tx.size_get a)) (arr_at' (Tx.size_get b))
  · exact step32 w (d + 1) (Tx.payload_get a) (Tx.payload_get b)
  · exact ⟨_, _, part35 w a, part35 w b, eq35 w d a.msg b.msg⟩
def cmpOp (t : TypeId) (x y : Operand) (u v : Value) : Sem Next := do pure (.value (← (do eqGuard .neq t x y u v; binOp .neq t u v)))
theorem execOp_neq35 (a : Act) (dst : Option Tmp) (x y : Operand) (ty : TypeId) (pos : String) (after : Array Edge) (guard : Option (Nat × Bool)) :
    execOp a.eval { dst, op := .binOp .neq 35 x y 35, type := ty, pos, after, guard } = cmpOp 35 x y (a.eval x) (a.eval y) := rfl
theorem execOp_neq37 (a : Act) (dst : Option Tmp) (x y : Operand) (ty : TypeId) (pos : String) (after : Array Edge) (guard : Option (Nat × Bool)) :
    execOp a.eval { dst, op := .binOp .neq 37 x y 37, type := ty, pos, after, guard } = cmpOp 37 x y (a.eval x) (a.eval y) := rfl
theorem neq35 (w : World) (x y : Operand) (a b : Message) : (cmpOp 35 x y (.agg a.enc.toArray) (.agg b.enc.toArray)).run Try.prog w = .ok (.value (.bool (!decide (a = b)))) w := by
  have h1 : (binOp .neq 35 (.agg a.enc.toArray) (.agg b.enc.toArray)).run Try.prog w = .ok (.bool (!decide (a = b))) w := by rw [run_neq_struct, eq35 w 9997]; rfl
  have ht : Try.prog.eqGuardType Try.prog.depth 35 = false := by kernel_rfl
  have hg : (eqGuard .neq 35 x y (.agg a.enc.toArray) (.agg b.enc.toArray)).run Try.prog w = .ok () w := by
    unfold eqGuard
    simp [Sem.run_bind, run_program, ht]
  unfold cmpOp
  simp only [Sem.run_bind, hg, Result.andThen_ok, h1]
  rfl
theorem neq37 (w : World) (x y : Operand) (a b : Tx) : (cmpOp 37 x y (.agg a.enc.toArray) (.agg b.enc.toArray)).run Try.prog w = .ok (.value (.bool (!decide (a = b)))) w := by
  have h1 : (binOp .neq 37 (.agg a.enc.toArray) (.agg b.enc.toArray)).run Try.prog w = .ok (.bool (!decide (a = b))) w := by rw [run_neq_struct, eq37 w 9996]; rfl
  have ht : Try.prog.eqGuardType Try.prog.depth 37 = false := by kernel_rfl
  have hg : (eqGuard .neq 37 x y (.agg a.enc.toArray) (.agg b.enc.toArray)).run Try.prog w = .ok () w := by
    unfold eqGuard
    simp [Sem.run_bind, run_program, ht]
  unfold cmpOp
  simp only [Sem.run_bind, hg, Result.andThen_ok, h1]
  rfl
end Go.Proofs.Qxb6500786a
