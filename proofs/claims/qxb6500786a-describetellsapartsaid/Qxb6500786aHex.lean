import Derived.Test.Qxb6500786aOwn
import Derived.StillTailTactics
import Derived.Deep.QuietTactic
import Derived.BigQuiet
import Derived.Deep.RegionHeld
import Derived.Deep.CutRange
import Derived.Laws.ResultCell
import Derived.Laws.Rows
import Derived.DeepKeys
import Derived.DataBytes
import Derived.Laws.StructEq
import Derived.Laws.AppendOwn
set_option linter.unusedSimpArgs false
set_option linter.unusedVariables false
namespace Go.Proofs.Qxb6500786a
open Go.RowKit Go.Blk
attribute [local go_sem ↓] execOp_load execOp_store execOp_alloc
attribute [local go_sem] Try.ld33 Try.st33 Try.ld24 Try.st24 Try.ld29 Try.st29 Try.ld30 Try.st30 Try.ld31 Try.st31 Try.ld5 Try.st5 Try.ld28 Try.st28 Try.ld27 Try.st27 Try.ld26 Try.st26 Try.ld2 Try.st2 Try.ld3 Try.st3 Try.ld4 Try.st4 Try.ld9 Try.st9 Try.ld12 Try.st12 Try.ld21 Try.st21 Try.ld22 Try.st22 Try.ld41 Try.st41 Try.ld50 Try.st50 Try.ld55 Try.st55 Try.ld63 Try.st63 Try.ld78 Try.st78 Try.ld87 Try.st87 Try.ld91 Try.st91 Try.ld32 Try.st32 Try.ld47 Try.st47 Try.ld52 Try.st52 Try.ld71 Try.st71 Try.ld35 Try.st35 Try.ld37 Try.st37 Try.ld39 Try.st39 Try.al32 Try.al47 Try.al52 Try.al71 Try.al35 Try.al37 Try.al39
attribute [local go_sem] Message.length_enc Message.ok_enc Message.all_get Message.all_set Message.kind_get Message.kind_set Message.from__get Message.from__set Message.to__get Message.to__set Message.sender_get Message.sender_set Message.receiver_get Message.receiver_set Message.seq_get Message.seq_set Message.token_get Message.token_set Message.amount_get Message.amount_set Message.size_get Message.size_set Message.payload_get Message.payload_set Tx.length_enc Tx.ok_enc Tx.all_get Tx.all_set Tx.kind_get Tx.kind_set Tx.chain_get Tx.chain_set Tx.from__get Tx.from__set Tx.nonce_get Tx.nonce_set Tx.fee_get Tx.fee_set Tx.to__get Tx.to__set Tx.dest_get Tx.dest_set Tx.token_get Tx.token_set Tx.amount_get Tx.amount_set Tx.size_get Tx.size_set Tx.payload_get Tx.payload_set Tx.msg_get Tx.msg_set Tx.msg_kind_get Tx.msg_kind_set Tx.msg_from__get Tx.msg_from__set Tx.msg_to__get Tx.msg_to__set Tx.msg_sender_get Tx.msg_sender_set Tx.msg_receiver_get Tx.msg_receiver_set Tx.msg_seq_get Tx.msg_seq_set Tx.msg_token_get Tx.msg_token_set Tx.msg_amount_get Tx.msg_amount_set Tx.msg_size_get Tx.msg_size_set Tx.msg_payload_get Tx.msg_payload_set GOp.length_enc GOp.ok_enc GOp.all_get GOp.all_set GOp.kind_get GOp.kind_set GOp.tx_get GOp.tx_set GOp.txs_get GOp.txs_set GOp.gas_get GOp.gas_set GOp.acct_get GOp.acct_set GOp.token_get GOp.token_set GOp.chain_get GOp.chain_set GOp.seq_get GOp.seq_set GOp.tx_kind_get GOp.tx_kind_set GOp.tx_chain_get GOp.tx_chain_set GOp.tx_from__get GOp.tx_from__set GOp.tx_nonce_get GOp.tx_nonce_set GOp.tx_fee_get GOp.tx_fee_set GOp.tx_to__get GOp.tx_to__set GOp.tx_dest_get GOp.tx_dest_set GOp.tx_token_get GOp.tx_token_set GOp.tx_amount_get GOp.tx_amount_set GOp.tx_size_get GOp.tx_size_set GOp.tx_payload_get GOp.tx_payload_set GOp.tx_msg_get GOp.tx_msg_set GOp.tx_msg_kind_get GOp.tx_msg_kind_set GOp.tx_msg_from__get GOp.tx_msg_from__set GOp.tx_msg_to__get GOp.tx_msg_to__set GOp.tx_msg_sender_get GOp.tx_msg_sender_set GOp.tx_msg_receiver_get GOp.tx_msg_receiver_set GOp.tx_msg_seq_get GOp.tx_msg_seq_set GOp.tx_msg_token_get GOp.tx_msg_token_set GOp.tx_msg_amount_get GOp.tx_msg_amount_set GOp.tx_msg_size_get GOp.tx_msg_size_set GOp.tx_msg_payload_get GOp.tx_msg_payload_set
attribute [local go_sem] size_put size_ext blk_put free_put blk_alloc free_alloc blk_drew free_drew blk_ext free_ext lookOr_some putOr_some segAt_some cellAt_some storeIn_some put_put put_alloc_new length_arr ok_arr_u8 ok_arr_u32 ok_arr_u64 ok_arr_i64 ok_arr_sl cellsV_agg cellsV_int cellsV_bool cellsV_string cellsV_pointer cellsV_slice cellsV_sl ok_int ok_bool ok_string ok_pointer ok_slice ok_sl toList_arr seg_arr set_arr nth_splice nth_splice0 seg_splice seg_splice0 splice_splice splice_splice0 length_splice_if
attribute [local go_sem ↓] execOp_box
attribute [local go_sem] box_run nth_arr_u8 put_arr_u8
def bsliceOp2 (t : TypeId) (len : Nat) (parts : Array (Nat × Value)) : Sem Next := do pure (.value (← Instr.buildSlice t len parts))
theorem execOp_bslice2 (a : Act) (dst : Option Tmp) (t : TypeId) (len : Nat) (parts : Array (Nat × Operand)) (ty : TypeId) (pos : String) (after : Array Edge) (guard : Option (Nat × Bool)) :
    execOp a.eval { dst, op := .buildSlice t len parts, type := ty, pos, after, guard } = bsliceOp2 t len (parts.map fun (i, x) => (i, a.eval x)) := rfl
theorem bslice63 (w : World) (x y : Int) : (bsliceOp2 63 2 #[(0, .int .u8 x), (1, .int .u8 y)]).run Try.prog w = .ok (.value (.slice (some ⟨w.heap.size, 0, none⟩) 2 2)) (w.alloc (.cells #[.int .u8 x, .int .u8 y] 5)) := by kernel_rfl
def hexF (xs : List UInt8) : List UInt8 := xs.flatMap fun x => [hexD (x.toNat / 16), hexD (x.toNat % 16)]
def hexB (xs : List UInt8) : ByteArray := ⟨(hexF xs).toArray⟩
theorem heap_alloc_lt (w : World) (o : Obj) {k : Nat} (h : k < w.heap.size) : (w.alloc o).heap[k]? = w.heap[k]? := by rw [heap_alloc, if_neg (by omega)]
theorem own_bytes {base : Nat} {w : World} {v : Value} {xs : List UInt8} (h : OwnB base w v xs) : ∃ a cap, v = .slice a xs.length cap := by
  obtain ⟨h1, h2 | ⟨g, cap, cur, e1, e2⟩⟩ := h
  · exact ⟨none, 0, by rw [h2.1, h2.2]⟩
  · exact ⟨_, cap, e1⟩
attribute [local go_sem ↓] execOp_index execOp_convert execOp_slice execOp_add9 execOp_make execOp_bslice2
attribute [local go_sem] index_hex Try.sl71lo add_run bslice63
set_option maxRecDepth 100000 in
theorem frame32 (f : Nat → Value) : frameN 32 f = #[f 0, f 1, f 2, f 3, f 4, f 5, f 6, f 7, f 8, f 9, f 10, f 11, f 12, f 13, f 14, f 15, f 16, f 17, f 18, f 19, f 20, f 21, f 22, f 23, f 24, f 25, f 26, f 27, f 28, f 29, f 30, f 31] := by kernel_rfl
theorem conv_nil (w : World) : (convOp 63 9 (.slice none 0 0)).run Try.prog w = .ok (.value (.string (hexB []))) w := by kernel_rfl
def hxI (w : World) (b o l c : Nat) (xs : List UInt8) (f : Nat → Value) (W : World) : Prop :=
  f 0 = .slice (some ⟨b, o, none⟩) l c ∧ ∃ (i : Nat) (a : Option Addr) (cp : Nat), i ≤ l ∧ f 4 = .int .i64 (i : Nat) ∧ f 3 = .slice a (2 * i) cp ∧ Hid (OwnB w.heap.size W (.slice a (2 * i) cp) (hexF (xs.take i))) ∧ Hid (w.Extends W)
theorem hexF_length (xs : List UInt8) : (hexF xs).length = 2 * xs.length := by
  induction xs with
  | nil => rfl
  | cons x xs ih =>
    show (hexD (x.toNat / 16) :: hexD (x.toNat % 16) :: hexF xs).length = _
    simp only [List.length_cons, ih]
    omega
set_option maxRecDepth 20000 in
set_option maxHeartbeats 2000000 in
theorem hexOf_any (w : World) (b o l c : Nat) (C : List Value) (xs : List UInt8) (hb : blk w b = some C) (hl : xs.length = l) (hs : seg C o l = bv xs) (hC : o + l ≤ C.length) (h32 : l ≤ 32) :
    Calls Try.prog 30 #[.slice (some ⟨b, o, none⟩) l c] w fun e w' => e = .returned (.string (hexB xs)) ∧ w.Extends w' := by
  have HL : Hid (xs.length = l) := hl
  have HS : Hid (seg C o l = bv xs) := hs
  have HB : Hid (blk w b = some C) := hb
  obtain ⟨cc, hcc⟩ : ∃ cc, cc = 2 * l := ⟨_, rfl⟩
  have e1 : IntKind.i64.wrap (2 * (l : Int)) = (cc : Int) := by rw [wraps_i64 _ (by omega) (by omega)]; omega
  have m1 := fun w : World => make63 w 0 cc (by omega) (by omega)
  simp only [Int.natCast_zero] at m1
  have HC : Hid (cc = 2 * l) := hcc
  clear hcc hl hs hb
  go_enter Try.func30, Try.ntmps30
  go_upto_region 2 with fail
  have ho0 := made_own w cc w.heap.size (Nat.le_refl _) (by have := HC.out; omega)
  refine wp_world (fun W => OwnB w.heap.size W (.slice (some ⟨w.heap.size, 0, none⟩) 0 cc) [] ∧ Hid (w.Extends W)) ⟨ho0, extends_alloc (ext_Ext (Ext.refl w)) _⟩ ?_
  clear ho0 m1
  rintro W0 ⟨ho0, HE0⟩
  have HO0 : Hid (OwnB w.heap.size W0 (.slice (some ⟨w.heap.size, 0, none⟩) 0 cc) []) := ho0
  clear ho0
  go_wp2_with fail
  refine wp_loop_f 32 (hxI w b o l c xs) (fun f _ => l - (intOf (f 4)).toNat) rfl ?_ ?_
  · exact ⟨rfl, 0, _, cc, by omega, rfl, rfl, HO0.out, HE0.out⟩
  clear HO0 HE0
  intro F W hrel
  obtain ⟨h0, i, a, cp, hi, h4, h3, HO, HE⟩ := hrel
  have H4 : Hid (F 4 = .int .i64 (i : Nat)) := h4
  rw [frame32, h0, h3, h4]
  clear h0 h3 h4
  by_cases hil : i < l
  · have hbW : blk W b = some C := (HE.out.blk (blk_lt HB.out)).trans HB.out
    have hblt : b < W.heap.size := blk_lt hbW
    obtain ⟨x, hx⟩ : ∃ x, xs[i]? = some x := ⟨_, List.getElem?_eq_getElem (by rw [HL.out]; exact hil)⟩
    have hn : nth C (o + i) = some (.int .u8 (w8 x)) := by
      have h1 : (seg C o l)[i]? = (bv xs)[i]? := by rw [HS.out]
      unfold seg at h1
      rw [List.getElem?_take, if_pos hil, List.getElem?_drop] at h1
      unfold nth
      rw [h1]
      simp [bv, u8v, List.getElem?_map, hx]
    obtain ⟨hi4, hh⟩ : ∃ k, k = x.toNat / 16 := ⟨_, rfl⟩
    obtain ⟨lo4, hlo⟩ : ∃ k, k = x.toNat % 16 := ⟨_, rfl⟩
    have hx8 := w8_lt x
    have g1 : w8 x / 16 = (hi4 : Int) := by unfold w8; omega
    have g2 : Int.fdiv (w8 x) 16 = (hi4 : Int) := by rw [Int.fdiv_eq_ediv_of_nonneg _ (by decide)]; exact g1
    have g3 : bits .and .u8 (w8 x) 15 = (lo4 : Int) := by
      have := bits_mask .u8 8 (by decide) (fun n h0 h1 => by rw [IntKind.wrap_u8]; omega) 4 (by decide) (w8 x) (by unfold w8; omega) (by unfold w8; omega)
      have h15 : bits .and .u8 (w8 x) 15 = w8 x % 16 := by simpa using this
      rw [h15]; unfold w8; omega
    have g4 : hi4 < 16 := by omega
    have g5 : lo4 < 16 := by omega
    have HX : Hid (xs[i]? = some x) := hx
    have HH : Hid (hi4 = x.toNat / 16) := hh
    have HLO : Hid (lo4 = x.toNat % 16) := hlo
    have q0 : (0 : Int) ≤ (i : Int) := by omega
    have q1 : (i : Int) < (l : Int) := by omega
    have q2 : ((i : Int)).toNat = i := by omega
    have q3 : o + i + 1 ≤ C.length := by omega
    have e2 : IntKind.i64.wrap ((i : Int) + 1) = ((i + 1 : Nat) : Int) := by rw [wraps_i64 _ (by omega) (by omega)]; omega
    clear hh hlo hx8 hx
    go_wp2_with fail
    refine wp_region_held_drew (S := fun W' => blk W' b = some C ∧ True) (by kernel_rfl) ⟨hbW, trivial⟩ (fun hHeld => ?_)
    refine wpAnyH_take (i := 0) (oi := ⟨_, _, _, _, _, _⟩) (v := ?_) rfl (by kernel_rfl) (by kernel_rfl) (by kernel_rfl) (fun _ _ _ h => h) (Or.inl ⟨by rfl, ?_⟩) (by assumption) ?_
    rotate_left 1
    · intro W' hSw
      obtain ⟨hS1, hS2⟩ := hSw
      go_simp
      try with_reducible rfl
    try simp only [Act.put, List.setIfInBounds_toArray, List.set_cons_zero, List.set_cons_succ]
    refine wpAnyH_take (i := 1) (oi := ⟨_, _, _, _, _, _⟩) (v := ?_) rfl (by kernel_rfl) (by kernel_rfl) (by kernel_rfl) (fun _ _ _ h => h) (Or.inl ⟨by rfl, ?_⟩) (by assumption) ?_
    rotate_left 1
    · intro W' hSw
      obtain ⟨hS1, hS2⟩ := hSw
      go_simp
      try with_reducible rfl
    try simp only [Act.put, List.setIfInBounds_toArray, List.set_cons_zero, List.set_cons_succ]
    refine wpAnyH_take (i := 2) (oi := ⟨_, _, _, _, _, _⟩) (v := ?_) rfl (by kernel_rfl) (by kernel_rfl) (by kernel_rfl) (fun _ _ _ h => h) (Or.inl ⟨by rfl, ?_⟩) (by assumption) ?_
    rotate_left 1
    · intro W' hSw
      obtain ⟨hS1, hS2⟩ := hSw
      go_simp
      try with_reducible rfl
    try simp only [Act.put, List.setIfInBounds_toArray, List.set_cons_zero, List.set_cons_succ]
    refine wpAnyH_take (i := 3) (oi := ⟨_, _, _, _, _, _⟩) (v := ?_) rfl (by kernel_rfl) (by kernel_rfl) (by kernel_rfl) (fun _ _ _ h => h) (Or.inl ⟨by rfl, ?_⟩) (by assumption) ?_
    rotate_left 1
    · intro W' hSw
      obtain ⟨hS1, hS2⟩ := hSw
      go_simp
      try with_reducible rfl
    try simp only [Act.put, List.setIfInBounds_toArray, List.set_cons_zero, List.set_cons_succ]
    refine wpAnyH_take (i := 4) (oi := ⟨_, _, _, _, _, _⟩) (v := ?_) rfl (by kernel_rfl) (by kernel_rfl) (by kernel_rfl) (fun _ _ _ h => h) (Or.inl ⟨by rfl, ?_⟩) (by assumption) ?_
    rotate_left 1
    · intro W' hSw
      obtain ⟨hS1, hS2⟩ := hSw
      go_simp
      try with_reducible rfl
    try simp only [Act.put, List.setIfInBounds_toArray, List.set_cons_zero, List.set_cons_succ]
    refine wpAnyH_take (i := 5) (oi := ⟨_, _, _, _, _, _⟩) (v := ?_) rfl (by kernel_rfl) (by kernel_rfl) (by kernel_rfl) (fun _ _ _ h => h) (Or.inl ⟨by rfl, ?_⟩) (by assumption) ?_
    rotate_left 1
    · intro W' hSw
      obtain ⟨hS1, hS2⟩ := hSw
      go_simp
      try with_reducible rfl
    try simp only [Act.put, List.setIfInBounds_toArray, List.set_cons_zero, List.set_cons_succ]
    refine wpAnyH_take (i := 6) (oi := ⟨_, _, _, _, _, _⟩) (v := ?_) rfl (by kernel_rfl) (by kernel_rfl) (by kernel_rfl) (fun _ _ _ h => h) (Or.inl ⟨by rfl, ?_⟩) (by assumption) ?_
    rotate_left 1
    · intro W' hSw
      obtain ⟨hS1, hS2⟩ := hSw
      go_simp
      try with_reducible rfl
    try simp only [Act.put, List.setIfInBounds_toArray, List.set_cons_zero, List.set_cons_succ]
    refine wpAnyH_take (i := 7) (oi := ⟨_, _, _, _, _, _⟩) (v := ?_) rfl (by kernel_rfl) (by kernel_rfl) (by kernel_rfl) (fun _ _ _ h => h) (Or.inl ⟨by rfl, ?_⟩) (by assumption) ?_
    rotate_left 1
    · intro W' hSw
      obtain ⟨hS1, hS2⟩ := hSw
      go_simp
      try with_reducible rfl
    try simp only [Act.put, List.setIfInBounds_toArray, List.set_cons_zero, List.set_cons_succ]
    refine wpAnyH_take (i := 8) (oi := ⟨_, _, _, _, _, _⟩) (v := ?_) rfl (by kernel_rfl) (by kernel_rfl) (by kernel_rfl) (fun _ _ _ h => h) (Or.inl ⟨by rfl, ?_⟩) (by assumption) ?_
    rotate_left 1
    · intro W' hSw
      obtain ⟨hS1, hS2⟩ := hSw
      go_simp
      try with_reducible rfl
    try simp only [Act.put, List.setIfInBounds_toArray, List.set_cons_zero, List.set_cons_succ]
    refine wpAnyH_take (i := 9) (oi := ⟨_, _, _, _, _, _⟩) (v := ?_) rfl (by kernel_rfl) (by kernel_rfl) (by kernel_rfl) (fun _ _ _ h => h) (Or.inl ⟨by rfl, ?_⟩) (by assumption) ?_
    rotate_left 1
    · intro W' hSw
      obtain ⟨hS1, hS2⟩ := hSw
      go_simp
      try with_reducible rfl
    try simp only [Act.put, List.setIfInBounds_toArray, List.set_cons_zero, List.set_cons_succ]
    refine wpAnyH_take (i := 10) (oi := ⟨_, _, _, _, _, _⟩) (v := ?_) rfl (by kernel_rfl) (by kernel_rfl) (by kernel_rfl) (fun _ _ _ h => h) (Or.inl ⟨by rfl, ?_⟩) (by assumption) ?_
    rotate_left 1
    · intro W' hSw
      obtain ⟨hS1, hS2⟩ := hSw
      go_simp
      try with_reducible rfl
    try simp only [Act.put, List.setIfInBounds_toArray, List.set_cons_zero, List.set_cons_succ]
    refine wpAnyH_take (i := 11) (oi := ⟨_, _, _, _, _, _⟩) (v := ?_) rfl (by kernel_rfl) (by kernel_rfl) (by kernel_rfl) (fun _ _ _ h => h) (Or.inl ⟨by rfl, ?_⟩) (by assumption) ?_
    rotate_left 1
    · intro W' hSw
      obtain ⟨hS1, hS2⟩ := hSw
      go_simp
      try with_reducible rfl
    try simp only [Act.put, List.setIfInBounds_toArray, List.set_cons_zero, List.set_cons_succ]
    refine wpAnyH_take (i := 12) (oi := ⟨_, _, _, _, _, _⟩) (v := ?_) rfl (by kernel_rfl) (by kernel_rfl) (by kernel_rfl) (fun _ _ _ h => h) (Or.inl ⟨by rfl, ?_⟩) (by assumption) ?_
    rotate_left 1
    · intro W' hSw
      obtain ⟨hS1, hS2⟩ := hSw
      go_simp
      try with_reducible rfl
    try simp only [Act.put, List.setIfInBounds_toArray, List.set_cons_zero, List.set_cons_succ]
    refine wpAnyH_ready (rs := [13]) (by kernel_rfl) (by simp) ?_
    refine AllReadyH.cons (o := ⟨_, _, _, _, _, _⟩) rfl (fun K hK => ?_) AllReadyH.nil
    go_simp
    refine hK.out _ _ ?_ (fun hHeld => ?_)
    · exact ⟨(blk_alloc _ _ _ _).trans ((if_neg (by omega)).trans hbW), trivial⟩
    clear hK K
    try simp only [Act.put, List.setIfInBounds_toArray, List.set_cons_zero, List.set_cons_succ]
    refine wpAnyH_ready (rs := [14]) (by kernel_rfl) (by simp) ?_
    refine AllReadyH.cons (o := ⟨_, _, _, _, _, _⟩) rfl (fun K hK => ?_) AllReadyH.nil
    rw [if_pos (by rfl)]
    have hlen : (hexF (xs.take i)).length = 2 * i := by rw [hexF_length, List.length_take, HL.out]; omega
    obtain ⟨v2, W2, hrun, ho2, hg2⟩ := append_own w.heap.size ((W.alloc (.cells #[.int .u8 (w8 (hexD hi4)), .int .u8 (w8 (hexD lo4))] 5)).drew) 63 (.slice a (2 * i) cp) (hexF (xs.take i)) [hexD hi4, hexD lo4] (some ⟨W.heap.size, 0, none⟩) 2 (row_keep HO.out fun k hk => heap_alloc_lt _ _ (row_at HO.out k hk).2.1)
      (by
        have hbk : blk ((W.alloc (.cells #[.int .u8 (w8 (hexD hi4)), .int .u8 (w8 (hexD lo4))] 5)).drew) W.heap.size = some [.int .u8 (w8 (hexD hi4)), .int .u8 (w8 (hexD lo4))] := by rw [blk_drew, blk_alloc, if_pos rfl]
        simp [srcB, hbk, seg, bv, u8v])
      (by show w.heap.size ≤ (W.alloc _).heap.size; rw [World.size_alloc]; have := HE.out.size; omega) (by rw [hlen]; simp; omega)
    refine wp_append_run _ _ 63 rfl _ _ _ _ rfl rfl hrun ?_
    have HE2 : Hid (w.Extends W2) := (extends_drew (extends_alloc HE.out _)).grown hg2 (fun k hk => (row_at HO.out k hk).1)
    have hbW2 : blk W2 b = some C := (HE2.out.blk (blk_lt HB.out)).trans HB.out
    obtain ⟨a2, c2, rfl⟩ := own_bytes ho2
    have hl2 : (hexF (xs.take i) ++ [hexD hi4, hexD lo4]).length = 2 * (i + 1) := by rw [List.length_append, hlen]; simp; omega
    rw [hl2] at ho2 hrun ⊢
    have ht : hexF (xs.take i) ++ [hexD hi4, hexD lo4] = hexF (xs.take (i + 1)) := by
      rw [List.take_add_one, HX.out, HH.out, HLO.out]
      unfold hexF
      rw [List.flatMap_append]
      rfl
    rw [ht] at ho2
    have HO2 : Hid (OwnB w.heap.size W2 (.slice a2 (2 * (i + 1)) c2) (hexF (xs.take (i + 1)))) := ho2
    clear ho2 hg2 hrun hlen hl2 ht
    refine hK.out _ _ ⟨hbW2, trivial⟩ (fun hHeld => ?_)
    clear hK K
    try simp only [Act.put, List.setIfInBounds_toArray, List.set_cons_zero, List.set_cons_succ]
    refine wpAnyH_take (i := 15) (oi := ⟨_, _, _, _, _, _⟩) (v := ?_) rfl (by kernel_rfl) (by kernel_rfl) (by kernel_rfl) (fun _ _ _ h => h) (Or.inl ⟨by rfl, ?_⟩) (by assumption) ?_
    rotate_left 1
    · intro W' hSw
      obtain ⟨hS1, hS2⟩ := hSw
      go_simp
      try with_reducible rfl
    try simp only [Act.put, List.setIfInBounds_toArray, List.set_cons_zero, List.set_cons_succ]
    refine wpAnyH_done (by kernel_rfl) ?_ _
    go_wp2_with fail
    refine ⟨rfl, rfl, ?_, ?_⟩
    · refine ⟨rfl, i + 1, a2, c2, by omega, ?_, rfl, HO2.out, HE2.out⟩
      show Value.int .i64 _ = _
      go_num
    · show l - (intOf (Value.int .i64 _)).toNat < l - (intOf (F 4)).toNat
      rw [H4.out]
      simp [intOf]; omega
  · obtain rfl : i = l := by omega
    have hcv : (convOp 63 9 (.slice a (2 * i) cp)).run Try.prog W = .ok (.value (.string (hexB xs))) W := by
      obtain ⟨h1, h2 | ⟨g, cap, cur, e1, e2, e3, e4, e5, e6, e7⟩⟩ := HO.out
      · have hxs : xs = [] := List.eq_nil_of_length_eq_zero (by
          have := h2.2
          rw [hexF_length, List.length_take, HL.out] at this
          rw [HL.out]; omega)
        have h3 : Value.slice a (2 * i) cp = .slice none 0 0 := h2.1
        rw [h3, hxs]
        exact conv_nil W
      · have hlen : (hexF (xs.take i)).length = 2 * i := by rw [hexF_length, List.length_take, HL.out]; omega
        have htk : xs.take i = xs := List.take_of_length_le (by rw [HL.out]; exact Nat.le_refl _)
        injection e1 with ea _ _
        subst ea
        rw [htk] at hlen e7
        exact conv_at W g 0 (2 * i) cp (hexF xs) hlen _ (blk_mk e3) (by unfold seg; rw [List.drop_zero, ← hlen]; rw [Nat.mul_one] at e7; exact e7)
    go_wp2_with fail
    go_ret
    exact ⟨rfl, HE.out⟩
end Go.Proofs.Qxb6500786a
