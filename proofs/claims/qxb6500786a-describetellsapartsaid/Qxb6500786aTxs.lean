import Derived.Test.Qxb6500786aSmall
import Derived.StillTailTactics
import Derived.Deep.QuietTactic
import Derived.BigQuiet
import Derived.Deep.RegionHeld
import Derived.Deep.CutRange
import Derived.Laws.ResultCell
import Derived.Laws.Rows
import Derived.DeepKeys
import Derived.DataBytes
import Derived.Laws.StructEq
import Derived.Laws.AppendOwn
set_option linter.unusedSimpArgs false
set_option linter.unusedVariables false
namespace Go.Proofs.Qxb6500786a
open Go.RowKit Go.Blk
attribute [local go_sem ↓] execOp_load execOp_store execOp_alloc
attribute [local go_sem] Try.ld33 Try.st33 Try.ld24 Try.st24 Try.ld29 Try.st29 Try.ld30 Try.st30 Try.ld31 Try.st31 Try.ld5 Try.st5 Try.ld28 Try.st28 Try.ld27 Try.st27 Try.ld26 Try.st26 Try.ld2 Try.st2 Try.ld3 Try.st3 Try.ld4 Try.st4 Try.ld9 Try.st9 Try.ld12 Try.st12 Try.ld21 Try.st21 Try.ld22 Try.st22 Try.ld41 Try.st41 Try.ld50 Try.st50 Try.ld55 Try.st55 Try.ld63 Try.st63 Try.ld78 Try.st78 Try.ld87 Try.st87 Try.ld91 Try.st91 Try.ld32 Try.st32 Try.ld47 Try.st47 Try.ld52 Try.st52 Try.ld71 Try.st71 Try.ld35 Try.st35 Try.ld37 Try.st37 Try.ld39 Try.st39 Try.al32 Try.al47 Try.al52 Try.al71 Try.al35 Try.al37 Try.al39
attribute [local go_sem] Message.length_enc Message.ok_enc Message.all_get Message.all_set Message.kind_get Message.kind_set Message.from__get Message.from__set Message.to__get Message.to__set Message.sender_get Message.sender_set Message.receiver_get Message.receiver_set Message.seq_get Message.seq_set Message.token_get Message.token_set Message.amount_get Message.amount_set Message.size_get Message.size_set Message.payload_get Message.payload_set Tx.length_enc Tx.ok_enc Tx.all_get Tx.all_set Tx.kind_get Tx.kind_set Tx.chain_get Tx.chain_set Tx.from__get Tx.from__set Tx.nonce_get Tx.nonce_set Tx.fee_get Tx.fee_set Tx.to__get Tx.to__set Tx.dest_get Tx.dest_set Tx.token_get Tx.token_set Tx.amount_get Tx.amount_set Tx.size_get Tx.size_set Tx.payload_get Tx.payload_set Tx.msg_get Tx.msg_set Tx.msg_kind_get Tx.msg_kind_set Tx.msg_from__get Tx.msg_from__set Tx.msg_to__get Tx.msg_to__set Tx.msg_sender_get Tx.msg_sender_set Tx.msg_receiver_get Tx.msg_receiver_set Tx.msg_seq_get Tx.msg_seq_set Tx.msg_token_get Tx.msg_token_set Tx.msg_amount_get Tx.msg_amount_set Tx.msg_size_get Tx.msg_size_set Tx.msg_payload_get Tx.msg_payload_set GOp.length_enc GOp.ok_enc GOp.all_get GOp.all_set GOp.kind_get GOp.kind_set GOp.tx_get GOp.tx_set GOp.txs_get GOp.txs_set GOp.gas_get GOp.gas_set GOp.acct_get GOp.acct_set GOp.token_get GOp.token_set GOp.chain_get GOp.chain_set GOp.seq_get GOp.seq_set GOp.tx_kind_get GOp.tx_kind_set GOp.tx_chain_get GOp.tx_chain_set GOp.tx_from__get GOp.tx_from__set GOp.tx_nonce_get GOp.tx_nonce_set GOp.tx_fee_get GOp.tx_fee_set GOp.tx_to__get GOp.tx_to__set GOp.tx_dest_get GOp.tx_dest_set GOp.tx_token_get GOp.tx_token_set GOp.tx_amount_get GOp.tx_amount_set GOp.tx_size_get GOp.tx_size_set GOp.tx_payload_get GOp.tx_payload_set GOp.tx_msg_get GOp.tx_msg_set GOp.tx_msg_kind_get GOp.tx_msg_kind_set GOp.tx_msg_from__get GOp.tx_msg_from__set GOp.tx_msg_to__get GOp.tx_msg_to__set GOp.tx_msg_sender_get GOp.tx_msg_sender_set GOp.tx_msg_receiver_get GOp.tx_msg_receiver_set GOp.tx_msg_seq_get GOp.tx_msg_seq_set GOp.tx_msg_token_get GOp.tx_msg_token_set GOp.tx_msg_amount_get GOp.tx_msg_amount_set GOp.tx_msg_size_get GOp.tx_msg_size_set GOp.tx_msg_payload_get GOp.tx_msg_payload_set
attribute [local go_sem] size_put size_ext blk_put free_put blk_alloc free_alloc blk_drew free_drew blk_ext free_ext lookOr_some putOr_some segAt_some cellAt_some storeIn_some put_put put_alloc_new length_arr ok_arr_u8 ok_arr_u32 ok_arr_u64 ok_arr_i64 ok_arr_sl cellsV_agg cellsV_int cellsV_bool cellsV_string cellsV_pointer cellsV_slice cellsV_sl ok_int ok_bool ok_string ok_pointer ok_slice ok_sl toList_arr seg_arr set_arr nth_splice nth_splice0 seg_splice seg_splice0 splice_splice splice_splice0 length_splice_if
attribute [local go_sem ↓] execOp_box
attribute [local go_sem] box_run nth_arr_u8 put_arr_u8
theorem info37 : ∃ i, Try.prog.info? 37 = some i ∧ i.zero = some (.agg Tx.zero.enc.toArray) ∧ i.size = 83 ∧ i.bytes = 152 := by
  have hq : (Try.prog.info? 37).map (fun i => (i.zero, i.size, i.bytes)) = some (some (.agg Tx.zero.enc.toArray), 83, 152) := by kernel_rfl
  cases hx : Try.prog.info? 37 with
  | none => rw [hx] at hq; simp at hq
  | some i =>
    rw [hx] at hq
    simp only [Option.map_some, Option.some.injEq, Prod.mk.injEq] at hq
    exact ⟨i, rfl, hq.1, hq.2.1, hq.2.2⟩
theorem flat_parts (C : List Value) : ∀ (L : List Tx) (o : Nat), (∀ i x, L[i]? = some x → seg C (o + i * 83) 83 = x.enc) → o + L.length * 83 ≤ C.length → seg C o (L.length * 83) = L.flatMap Tx.enc
  | [], o, _, _ => by simp [seg]
  | x :: L, o, h, hl => by
    have h0 := h 0 x rfl
    rw [Nat.zero_mul, Nat.add_zero] at h0
    have ih := flat_parts C L (o + 83) (fun i y hy => by
      have := h (i + 1) y (by simpa using hy)
      rw [show o + (i + 1) * 83 = o + 83 + i * 83 by omega] at this
      exact this) (by simp at hl; omega)
    rw [List.flatMap_cons, ← ih, ← h0]
    unfold seg
    rw [List.length_cons, show (L.length + 1) * 83 = 83 + L.length * 83 by omega, List.take_add, List.drop_drop]
theorem row_val {B : Nat} {W : World} {e : TypeId} {size : Nat} {v : Value} {n : Nat} {xs : List Value} (h : W.ownsRow B e size v n xs) : ∃ a c, v = .slice a n c := by
  obtain ⟨h1, h2 | ⟨g, cap, cur, e1, e2⟩⟩ := h
  · exact ⟨none, 0, by rw [h2.1, h2.2]⟩
  · exact ⟨_, cap, e1⟩
theorem append26 (base : Nat) (w : World) (ty : TypeId) (v : Value) (K ys : List Tx) (sp : Option Addr) (c : Nat) (h : w.ownsRow base 37 83 v K.length (K.flatMap Tx.enc)) (hs : ys ≠ [] → ∃ b o C, sp = some ⟨b, o, none⟩ ∧ blk w b = some C ∧ seg C o (ys.length * 83) = ys.flatMap Tx.enc ∧ o + ys.length * 83 ≤ C.length) (hb : base ≤ w.heap.size) (hl : K.length + ys.length ≤ 200000) :
    ∃ v' w', (Builtin.append_ #[26, 26] ty #[v, .slice sp ys.length c]).run Try.prog w = .ok v' w' ∧ w'.ownsRow base 37 83 v' (K ++ ys).length ((K ++ ys).flatMap Tx.enc) ∧ w.grownBy w' v.ownBlock := by
  obtain ⟨i, hi, hz, hsz, hby⟩ := info37
  by_cases h0 : ys = []
  · subst h0
    refine ⟨v, w, ?_, by rw [List.append_nil]; exact h, ⟨rfl, rfl, rfl, Nat.le_refl _, fun _ _ _ => rfl⟩⟩
    have hl0 : ∀ (x : Addr), (loadCells x 0).run Try.prog w = .ok #[] w := fun x => by simpa using run_loadCells_list (P := Try.prog) w x [] (by simp)
    obtain ⟨_, h | h⟩ := h
    · rw [h.1]
      cases sp <;> simp [Builtin.append_, run_underlying Try.underlying26, sizeOf, typeInfo, hi, hsz, Builtin.lenOf, Builtin.firstCells, hl0, storeCells]
    · obtain ⟨g, cap, cur, rfl, h1, h2, h3, h4, h5, h6⟩ := h
      cases sp <;> simp [Builtin.append_, run_underlying Try.underlying26, sizeOf, typeInfo, hi, hsz, Builtin.lenOf, Builtin.firstCells, h3, hl0, storeCells]
  · obtain ⟨b, o, C, rfl, hC, hseg, hfit⟩ := hs h0
    have hpos : 0 < ys.length := List.length_pos_iff.2 h0
    have hlen : (ys.flatMap Tx.enc).length = ys.length * 83 := by rw [← hseg]; unfold seg; simp; omega
    have hnews : ∀ j u, (ys.flatMap Tx.enc)[j]? = some u → w.cell? ((⟨b, o, none⟩ : Addr).add j) = some u := fun j u hu => by
      rw [add_addr, cell_blk hC]
      rw [← hseg] at hu
      unfold seg at hu
      rw [List.getElem?_take] at hu
      split at hu
      · rw [List.getElem?_drop] at hu; exact hu
      · simp at hu
    have hone : ∀ u ∈ ys.flatMap Tx.enc, u.oneCell' = true := fun u hu => by
      obtain ⟨x, _, hx⟩ := List.mem_flatMap.1 hu
      have := Tx.one_enc x
      exact List.all_eq_true.1 this u hx
    have hzc : (Value.agg Tx.zero.enc.toArray).cells.size = 83 := by simp [Value.cells, Tx.length_enc]
    obtain ⟨v', w', hr, h1, h2, _⟩ := run_append_own (P := Try.prog) w base 26 ty 37 i _ 83 152 Try.underlying26 hi hz hsz hby hzc (by decide) v K.length _ h ⟨b, o, none⟩ ys.length c (ys.flatMap Tx.enc) hlen hnews hone (by simp only [maxLen]; omega) (by omega) hb
    refine ⟨v', w', hr, ?_, h2⟩
    rw [List.length_append, List.flatMap_append]
    exact h1
theorem wpList_append_run {w : World} {ops : Array Oper} {rest : List Oper} {o : Oper} {a : Act} {Q : Exit → Act → World → Prop} (hgd : o.guard = none) (s x : Operand) (t : TypeId)
    (ho : o.op = .call { callee := .builtin .append, args := #[s, x], argTypes := #[t, t] }) (v u v' : Value) (w' : World) (hs : a.eval s = v) (hx : a.eval x = u) (hr : (Builtin.append_ #[t, t] o.type #[v, u]).run Try.prog w = .ok v' w')
    (hK : wpList Try.prog ops Q rest (a.put o.dst v') w') : wpList Try.prog ops Q (o :: rest) a w := by
  refine wpList_plain hgd fun K hK' => ?_
  unfold Oper.wp
  simp [execOp, ho, resolve, invoke, builtin, hs, hx, hr, Result.andThen]
  exact hK' _ _ hK
def bsliceOp (t : TypeId) (len : Nat) (parts : Array (Nat × Value)) : Sem Next := do pure (.value (← Instr.buildSlice t len parts))
theorem execOp_bslice (a : Act) (dst : Option Tmp) (t : TypeId) (len : Nat) (parts : Array (Nat × Operand)) (ty : TypeId) (pos : String) (after : Array Edge) (guard : Option (Nat × Bool)) :
    execOp a.eval { dst, op := .buildSlice t len parts, type := ty, pos, after, guard } = bsliceOp t len (parts.map fun (i, x) => (i, a.eval x)) := rfl
set_option maxRecDepth 100000 in
theorem bslice26_lit (w : World) (x0 x1 x2 x3 x4 x5 x6 x7 x8 x9 x10 x11 x12 x13 x14 x15 x16 x17 x18 x19 x20 x21 x22 x23 x24 x25 x26 x27 x28 x29 x30 x31 x32 x33 x34 x35 x36 x37 x38 x39 x40 x41 x42 x43 x44 x45 x46 x47 x48 x49 x50 x51 x52 x53 x54 x55 x56 x57 x58 x59 x60 x61 x62 x63 x64 x65 x66 x67 x68 x69 x70 x71 x72 x73 x74 x75 x76 x77 x78 x79 x80 x81 x82 : Value) : (bsliceOp 26 1 #[(0, .agg #[x0, x1, x2, x3, x4, x5, x6, x7, x8, x9, x10, x11, x12, x13, x14, x15, x16, x17, x18, x19, x20, x21, x22, x23, x24, x25, x26, x27, x28, x29, x30, x31, x32, x33, x34, x35, x36, x37, x38, x39, x40, x41, x42, x43, x44, x45, x46, x47, x48, x49, x50, x51, x52, x53, x54, x55, x56, x57, x58, x59, x60, x61, x62, x63, x64, x65, x66, x67, x68, x69, x70, x71, x72, x73, x74, x75, x76, x77, x78, x79, x80, x81, x82])]).run Try.prog w = .ok (.value (.slice (some ⟨w.heap.size, 0, none⟩) 1 1)) (w.alloc (.cells #[x0, x1, x2, x3, x4, x5, x6, x7, x8, x9, x10, x11, x12, x13, x14, x15, x16, x17, x18, x19, x20, x21, x22, x23, x24, x25, x26, x27, x28, x29, x30, x31, x32, x33, x34, x35, x36, x37, x38, x39, x40, x41, x42, x43, x44, x45, x46, x47, x48, x49, x50, x51, x52, x53, x54, x55, x56, x57, x58, x59, x60, x61, x62, x63, x64, x65, x66, x67, x68, x69, x70, x71, x72, x73, x74, x75, x76, x77, x78, x79, x80, x81, x82] 37)) := by kernel_rfl
theorem bslice26 (w : World) (x : Tx) : (bsliceOp 26 1 #[(0, .agg x.enc.toArray)]).run Try.prog w = .ok (.value (.slice (some ⟨w.heap.size, 0, none⟩) 1 1)) (w.alloc (.cells x.enc.toArray 37)) := by
  have hL : x.enc.length = 83 := Tx.length_enc x
  generalize x.enc = L at hL
  obtain ⟨x0, L0, rfl, hL0⟩ := split1 _ _ hL
  obtain ⟨x1, L1, rfl, hL1⟩ := split1 _ _ hL0
  obtain ⟨x2, L2, rfl, hL2⟩ := split1 _ _ hL1
  obtain ⟨x3, L3, rfl, hL3⟩ := split1 _ _ hL2
  obtain ⟨x4, L4, rfl, hL4⟩ := split1 _ _ hL3
  obtain ⟨x5, L5, rfl, hL5⟩ := split1 _ _ hL4
  obtain ⟨x6, L6, rfl, hL6⟩ := split1 _ _ hL5
  obtain ⟨x7, L7, rfl, hL7⟩ := split1 _ _ hL6
  obtain ⟨x8, L8, rfl, hL8⟩ := split1 _ _ hL7
  obtain ⟨x9, L9, rfl, hL9⟩ := split1 _ _ hL8
  obtain ⟨x10, L10, rfl, hL10⟩ := split1 _ _ hL9
  obtain ⟨x11, L11, rfl, hL11⟩ := split1 _ _ hL10
  obtain ⟨x12, L12, rfl, hL12⟩ := split1 _ _ hL11
  obtain ⟨x13, L13, rfl, hL13⟩ := split1 _ _ hL12
  obtain ⟨x14, L14, rfl, hL14⟩ := split1 _ _ hL13
  obtain ⟨x15, L15, rfl, hL15⟩ := split1 _ _ hL14
  obtain ⟨x16, L16, rfl, hL16⟩ := split1 _ _ hL15
  obtain ⟨x17, L17, rfl, hL17⟩ := split1 _ _ hL16
  obtain ⟨x18, L18, rfl, hL18⟩ := split1 _ _ hL17
  obtain ⟨x19, L19, rfl, hL19⟩ := split1 _ _ hL18
  obtain ⟨x20, L20, rfl, hL20⟩ := split1 _ _ hL19
  obtain ⟨x21, L21, rfl, hL21⟩ := split1 _ _ hL20
  obtain ⟨x22, L22, rfl, hL22⟩ := split1 _ _ hL21
  obtain ⟨x23, L23, rfl, hL23⟩ := split1 _ _ hL22
  obtain ⟨x24, L24, rfl, hL24⟩ := split1 _ _ hL23
  obtain ⟨x25, L25, rfl, hL25⟩ := split1 _ _ hL24
  obtain ⟨x26, L26, rfl, hL26⟩ := split1 _ _ hL25
  obtain ⟨x27, L27, rfl, hL27⟩ := split1 _ _ hL26
  obtain ⟨x28, L28, rfl, hL28⟩ := split1 _ _ hL27
  obtain ⟨x29, L29, rfl, hL29⟩ := split1 _ _ hL28
  obtain ⟨x30, L30, rfl, hL30⟩ := split1 _ _ hL29
  obtain ⟨x31, L31, rfl, hL31⟩ := split1 _ _ hL30
  obtain ⟨x32, L32, rfl, hL32⟩ := split1 _ _ hL31
  obtain ⟨x33, L33, rfl, hL33⟩ := split1 _ _ hL32
  obtain ⟨x34, L34, rfl, hL34⟩ := split1 _ _ hL33
  obtain ⟨x35, L35, rfl, hL35⟩ := split1 _ _ hL34
  obtain ⟨x36, L36, rfl, hL36⟩ := split1 _ _ hL35
  obtain ⟨x37, L37, rfl, hL37⟩ := split1 _ _ hL36
  obtain ⟨x38, L38, rfl, hL38⟩ := split1 _ _ hL37
  obtain ⟨x39, L39, rfl, hL39⟩ := split1 _ _ hL38
  obtain ⟨x40, L40, rfl, hL40⟩ := split1 _ _ hL39
  obtain ⟨x41, L41, rfl, hL41⟩ := split1 _ _ hL40
  obtain ⟨x42, L42, rfl, hL42⟩ := split1 _ _ hL41
  obtain ⟨x43, L43, rfl, hL43⟩ := split1 _ _ hL42
  obtain ⟨x44, L44, rfl, hL44⟩ := split1 _ _ hL43
  obtain ⟨x45, L45, rfl, hL45⟩ := split1 _ _ hL44
  obtain ⟨x46, L46, rfl, hL46⟩ := split1 _ _ hL45
  obtain ⟨x47, L47, rfl, hL47⟩ := split1 _ _ hL46
  obtain ⟨x48, L48, rfl, hL48⟩ := split1 _ _ hL47
  obtain ⟨x49, L49, rfl, hL49⟩ := split1 _ _ hL48
  obtain ⟨x50, L50, rfl, hL50⟩ := split1 _ _ hL49
  obtain ⟨x51, L51, rfl, hL51⟩ := split1 _ _ hL50
  obtain ⟨x52, L52, rfl, hL52⟩ := split1 _ _ hL51
  obtain ⟨x53, L53, rfl, hL53⟩ := split1 _ _ hL52
  obtain ⟨x54, L54, rfl, hL54⟩ := split1 _ _ hL53
  obtain ⟨x55, L55, rfl, hL55⟩ := split1 _ _ hL54
  obtain ⟨x56, L56, rfl, hL56⟩ := split1 _ _ hL55
  obtain ⟨x57, L57, rfl, hL57⟩ := split1 _ _ hL56
  obtain ⟨x58, L58, rfl, hL58⟩ := split1 _ _ hL57
  obtain ⟨x59, L59, rfl, hL59⟩ := split1 _ _ hL58
  obtain ⟨x60, L60, rfl, hL60⟩ := split1 _ _ hL59
  obtain ⟨x61, L61, rfl, hL61⟩ := split1 _ _ hL60
  obtain ⟨x62, L62, rfl, hL62⟩ := split1 _ _ hL61
  obtain ⟨x63, L63, rfl, hL63⟩ := split1 _ _ hL62
  obtain ⟨x64, L64, rfl, hL64⟩ := split1 _ _ hL63
  obtain ⟨x65, L65, rfl, hL65⟩ := split1 _ _ hL64
  obtain ⟨x66, L66, rfl, hL66⟩ := split1 _ _ hL65
  obtain ⟨x67, L67, rfl, hL67⟩ := split1 _ _ hL66
  obtain ⟨x68, L68, rfl, hL68⟩ := split1 _ _ hL67
  obtain ⟨x69, L69, rfl, hL69⟩ := split1 _ _ hL68
  obtain ⟨x70, L70, rfl, hL70⟩ := split1 _ _ hL69
  obtain ⟨x71, L71, rfl, hL71⟩ := split1 _ _ hL70
  obtain ⟨x72, L72, rfl, hL72⟩ := split1 _ _ hL71
  obtain ⟨x73, L73, rfl, hL73⟩ := split1 _ _ hL72
  obtain ⟨x74, L74, rfl, hL74⟩ := split1 _ _ hL73
  obtain ⟨x75, L75, rfl, hL75⟩ := split1 _ _ hL74
  obtain ⟨x76, L76, rfl, hL76⟩ := split1 _ _ hL75
  obtain ⟨x77, L77, rfl, hL77⟩ := split1 _ _ hL76
  obtain ⟨x78, L78, rfl, hL78⟩ := split1 _ _ hL77
  obtain ⟨x79, L79, rfl, hL79⟩ := split1 _ _ hL78
  obtain ⟨x80, L80, rfl, hL80⟩ := split1 _ _ hL79
  obtain ⟨x81, L81, rfl, hL81⟩ := split1 _ _ hL80
  obtain ⟨x82, L82, rfl, hL82⟩ := split1 _ _ hL81
  obtain rfl := List.eq_nil_of_length_eq_zero hL82
  exact bslice26_lit w x0 x1 x2 x3 x4 x5 x6 x7 x8 x9 x10 x11 x12 x13 x14 x15 x16 x17 x18 x19 x20 x21 x22 x23 x24 x25 x26 x27 x28 x29 x30 x31 x32 x33 x34 x35 x36 x37 x38 x39 x40 x41 x42 x43 x44 x45 x46 x47 x48 x49 x50 x51 x52 x53 x54 x55 x56 x57 x58 x59 x60 x61 x62 x63 x64 x65 x66 x67 x68 x69 x70 x71 x72 x73 x74 x75 x76 x77 x78 x79 x80 x81 x82
theorem grown_ext {w W W' : World} {r : Option Nat} (h : w.Extends W) (hg : W.grownBy W' r) (hr : ∀ k, r = some k → w.heap.size ≤ k) : w.Extends W' := h.grown hg hr
attribute [local go_sem ↓] execOp_bslice
attribute [local go_sem] bslice26
set_option maxRecDepth 20000 in
set_option maxHeartbeats 1000000 in
theorem txsOf_any (w : World) (g : GOp) (L : List Tx) (hT : TxsIn w g.txs L) (hl : g.txs.len ≤ 65536) : Calls Try.prog 9 #[.agg g.enc.toArray] w fun e w' => ∃ v, e = .returned v ∧ w'.ownsRow w.heap.size 37 83 v (g.tx :: L).length ((g.tx :: L).flatMap Tx.enc) ∧ w.Extends w' := by
  obtain ⟨hTl, hTc, hTm, hTb⟩ := hT
  have HTB : Hid (g.txs.len ≠ 0 → ∃ b o C, g.txs.a = some ⟨b, o, none⟩ ∧ blk w b = some C ∧ o + g.txs.len * 83 ≤ C.length ∧ ∀ i x, L[i]? = some x → seg C (o + i * 83) 83 = x.enc) := hTb
  have HTL : Hid (L.length = g.txs.len) := hTl
  have hLl : L.length ≤ 65536 := by omega
  clear hTb hTl
  have hxw : w.Extends ((w.alloc (.cells g.enc.toArray 39)).alloc (.cells g.tx.enc.toArray 37)) := extends_alloc (extends_alloc (ext_Ext (Ext.refl _)) _) _
  obtain ⟨v1, W1, hrun1, ho1, hg1⟩ := append26 w.heap.size ((w.alloc (.cells g.enc.toArray 39)).alloc (.cells g.tx.enc.toArray 37)) 26 (.slice none 0 0) [] [g.tx] (some ⟨w.heap.size + 1, 0, none⟩) 1 ⟨rfl, .inl ⟨rfl, rfl⟩⟩ (fun _ => ⟨w.heap.size + 1, 0, g.tx.enc, rfl, by rw [blk_alloc, if_pos (by rw [World.size_alloc])], by simp [seg]; exact List.take_of_length_le (by rw [Tx.length_enc]; omega), by rw [Tx.length_enc]; simp⟩) hxw.size (by simp)
  have hE1 : w.Extends W1 := grown_ext hxw hg1 (fun k hk => by simp [Value.ownBlock] at hk)
  have hb1 : blk W1 w.heap.size = some g.enc := by
    rw [blk_of_heap (hg1.block w.heap.size (by simp only [World.size_alloc]; omega) (by simp [Value.ownBlock])), blk_alloc, if_neg (by rw [World.size_alloc]; omega), blk_alloc, if_pos rfl]
  rw [List.nil_append] at ho1
  obtain ⟨v2, W2, hrun2, ho2, hg2⟩ := append26 w.heap.size W1 26 v1 [g.tx] L g.txs.a g.txs.cap ho1 (fun hne => by
    have hL0 : g.txs.len ≠ 0 := by have := HTL.out; have := List.length_pos_iff.2 hne; omega
    obtain ⟨b, o, C, h1, h2, h3, h4⟩ := HTB.out hL0
    refine ⟨b, o, C, h1, (hE1.blk (blk_lt h2)).trans h2, flat_parts C L o h4 (by rw [HTL.out]; exact h3), by rw [HTL.out]; exact h3⟩) hE1.size (by simp; omega)
  have hE2 : w.Extends W2 := grown_ext hE1 hg2 (fun k hk => by
    obtain ⟨_, q | ⟨gg, cap, cur, e1, e2, _⟩⟩ := ho1
    · rw [q.1] at hk; simp [Value.ownBlock] at hk
    · rw [e1] at hk; simp [Value.ownBlock] at hk; omega)
  have hsv : Sl.val g.txs = .slice g.txs.a g.txs.len g.txs.cap := rfl
  rw [HTL.out] at hrun2
  have HE2 : Hid (w.Extends W2) := hE2
  have HO2 : Hid (W2.ownsRow w.heap.size 37 83 v2 (g.tx :: L).length ((g.tx :: L).flatMap Tx.enc)) := ho2
  clear hg1 hg2 ho1 ho2 hE1 hE2 hxw
  go_enter Try.func9, Try.ntmps9
  go_upto_region 3 with (at_builtin; refine wpList_append_run rfl _ _ 26 rfl _ _ _ _ rfl rfl hrun1 ?_)
  clear hrun1
  go_wp2_with (at_builtin; refine wpList_append_run rfl _ _ 26 rfl _ _ _ _ rfl rfl hrun2 ?_)
  go_ret
  exact ⟨v2, rfl, HO2.out, HE2.out⟩
end Go.Proofs.Qxb6500786a
