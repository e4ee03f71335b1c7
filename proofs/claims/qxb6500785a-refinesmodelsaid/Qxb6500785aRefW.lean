import Derived.Test.Qxb6500785aWit3
import Derived.Test.Qxb6500785aStepB3

import Derived.Test.Qxb6500785aStream
import Derived.Test.Qxb6500785aApart
import Derived.Test.Qxb6500785aKnown
import Derived.Deep.RegionHeld
import Derived.Deep.CutRange
import Derived.Laws.ResultCell
import Derived.Laws.Rows
set_option linter.unusedSimpArgs false
set_option linter.unusedVariables false
namespace Go.Proofs.Qxb6500785a
open Go.RowKit Go.Blk
attribute [local go_sem ↓] execOp_load execOp_store execOp_alloc
attribute [local go_sem] Try.ld24 Try.st24 Try.ld5 Try.st5 Try.ld3 Try.st3 Try.ld27 Try.st27 Try.ld32 Try.st32 Try.ld33 Try.st33 Try.ld4 Try.st4 Try.ld41 Try.st41 Try.ld40 Try.st40 Try.ld42 Try.st42 Try.ld47 Try.st47 Try.ld48 Try.st48 Try.ld57 Try.st57 Try.ld58 Try.st58 Try.ld2 Try.st2 Try.ld9 Try.st9 Try.ld12 Try.st12 Try.ld21 Try.st21 Try.ld22 Try.st22 Try.ld46 Try.st46 Try.ld83 Try.st83 Try.ld95 Try.st95 Try.ld99 Try.st99 Try.ld106 Try.st106 Try.ld108 Try.st108 Try.ld134 Try.st134 Try.ld25 Try.st25 Try.ld26 Try.st26 Try.ld34 Try.st34 Try.ld31 Try.st31 Try.ld30 Try.st30 Try.ld74 Try.st74 Try.ld96 Try.st96 Try.ld101 Try.st101 Try.ld115 Try.st115 Try.ld116 Try.st116 Try.ld120 Try.st120 Try.ld121 Try.st121 Try.ld122 Try.st122 Try.ld29 Try.st29 Try.ld36 Try.st36 Try.ld38 Try.st38 Try.ld44 Try.st44 Try.ld50 Try.st50 Try.ld60 Try.st60 Try.ld110 Try.st110 Try.al25 Try.al26 Try.al34 Try.al31 Try.al30 Try.al74 Try.al96 Try.al101 Try.al115 Try.al116 Try.al120 Try.al121 Try.al122 Try.al29 Try.al36 Try.al38 Try.al44 Try.al50 Try.al60 Try.al110
attribute [local go_sem] Hasher.length_enc Hasher.ok_enc Hasher.all_get Hasher.all_set Hasher.state_get Hasher.state_set Hasher.block_get Hasher.block_set Hasher.fill_get Hasher.fill_set Hasher.length_get Hasher.length_set GLog.length_enc GLog.ok_enc GLog.all_get GLog.all_set GLog.entries_get GLog.entries_set GLog.shelves_get GLog.shelves_set GLog.first_get GLog.first_set GLog.second_get GLog.second_set GLog.found_get GLog.found_set Player.length_enc Player.ok_enc Player.all_get Player.all_set Player.hand_get Player.hand_set Player.aside_get Player.aside_set Player.prev_get Player.prev_set Player.last_get Player.last_set Player.log_get Player.log_set Player.hand_state_get Player.hand_state_set Player.hand_block_get Player.hand_block_set Player.hand_fill_get Player.hand_fill_set Player.hand_length_get Player.hand_length_set Player.aside_state_get Player.aside_state_set Player.aside_block_get Player.aside_block_set Player.aside_fill_get Player.aside_fill_set Player.aside_length_get Player.aside_length_set Player.log_entries_get Player.log_entries_set Player.log_shelves_get Player.log_shelves_set Player.log_first_get Player.log_first_set Player.log_second_get Player.log_second_set Player.log_found_get Player.log_found_set GOp.length_enc GOp.ok_enc GOp.all_get GOp.all_set GOp.kind_get GOp.kind_set GOp.data_get GOp.data_set GOp.cut_get GOp.cut_set GOp.n_get GOp.n_set GOp.b_get GOp.b_set GOp.v_get GOp.v_set GOp.dom_get GOp.dom_set GOp.sum_get GOp.sum_set Answer.length_enc Answer.ok_enc Answer.all_get Answer.all_set Answer.code_get Answer.code_set Answer.sum_get Answer.sum_set Answer.len_get Answer.len_set Answer.mark_get Answer.mark_set Answer.noted_get Answer.noted_set Answer.collided_get Answer.collided_set GState.length_enc GState.ok_enc GState.all_get GState.all_set GState.hand_get GState.hand_set GState.aside_get GState.aside_set GState.prev_get GState.prev_set GState.last_get GState.last_set GState.inputs_get GState.inputs_set GState.sums_get GState.sums_set GState.collided_get GState.collided_set GState.older_get GState.older_set GState.younger_get GState.younger_set Noted.length_enc Noted.ok_enc Noted.all_get Noted.all_set Noted.input_get Noted.input_set Noted.sum_get Noted.sum_set
attribute [local go_sem] size_put size_ext blk_put free_put blk_alloc free_alloc blk_drew free_drew blk_ext free_ext lookOr_some putOr_some segAt_some cellAt_some storeIn_some put_put put_alloc_new length_arr ok_arr_u8 ok_arr_u32 ok_arr_u64 ok_arr_i64 ok_arr_sl cellsV_agg cellsV_int cellsV_bool cellsV_string cellsV_pointer cellsV_slice cellsV_sl ok_int ok_bool ok_string ok_pointer ok_slice ok_sl toList_arr seg_arr set_arr nth_splice nth_splice0 seg_splice seg_splice0 splice_splice splice_splice0 length_splice_if
attribute [local go_sem] w32_and w32_or w32_xor w32_add w32_or8 w32_not w8_and w8_or w8_xor w32_shr2 w32_shl2 w32_shr3 w32_shl3 w32_shr6 w32_shl6 w32_shr7 w32_shl7 w32_shr8 w32_shl8 w32_shr10 w32_shl10 w32_shr11 w32_shl11 w32_shr13 w32_shl13 w32_shr14 w32_shl14 w32_shr15 w32_shl15 w32_shr16 w32_shl16 w32_shr17 w32_shl17 w32_shr18 w32_shl18 w32_shr19 w32_shl19 w32_shr21 w32_shl21 w32_shr22 w32_shl22 w32_shr24 w32_shl24 w32_shr25 w32_shl25 w32_shr26 w32_shl26 w32_shr30 w32_shl30 w8_shl24 w8_shl16 w8_shl8 v32_add v32_byte w32_byte0 v8_shl24 v8_shl16 v8_shl8 v32_shr2 v32_shl2 v32_shr3 v32_shl3 v32_shr6 v32_shl6 v32_shr7 v32_shl7 v32_shr8 v32_shl8 v32_shr10 v32_shl10 v32_shr11 v32_shl11 v32_shr13 v32_shl13 v32_shr14 v32_shl14 v32_shr15 v32_shl15 v32_shr16 v32_shl16 v32_shr17 v32_shl17 v32_shr18 v32_shl18 v32_shr19 v32_shl19 v32_shr21 v32_shl21 v32_shr22 v32_shl22 v32_shr24 v32_shl24 v32_shr25 v32_shl25 v32_shr26 v32_shl26 v32_shr30 v32_shl30
attribute [local go_sem ↓] execOp_build
attribute [local go_sem] run_build_kv run_build_iv nth_arr_u32 put_arr_u32 nth_arr_u8 put_arr_u8 v32_of8 blk_drewN free_drewN put_drewN put_drew blk_raw free_raw
attribute [local go_sem ↓] execOp_slice execOp_copy
attribute [local go_sem] Try.sl40lo Try.sl40hi Try.sl26lo Try.sl26hi Try.sl26 Try.sl96lo Try.sl96hi Try.sl96 Try.sl31lo Try.sl31 Try.sl120 Try.sl121 Try.sl121lo Try.sl121hi Try.cp40 copyOr_some copyIn_some srcB_drew srcB_drewN srcB_raw length_bv one_bv
attribute [local go_sem] Hasher.length_zero
attribute [local go_sem] Try.cpv copyOrV_some
attribute [local go_sem ↓] execOp_index execOp_convert execOp_box execOp_convert9
attribute [local go_sem] index_hex box_run conv_bytes eq31
attribute [local go_sem] build31
attribute [local go_sem ↓] execOp_make execOp_bslice
attribute [local go_sem] make40 bslice57 bslice58
attribute [local go_sem] bslice40
theorem eqFields_self {P : Program} (w : World) (d : Nat) (xs : Array Value) : ∀ fs : List Field, (∀ f ∈ fs, ∃ v, (part f.type xs f.offset).run P w = .ok v w ∧ (Op.equalIn d f.type v v).run P w = .ok true w) → (Op.eqFields d xs xs fs).run P w = .ok true w
  | [], _ => rfl
  | f :: fs, h => by
    obtain ⟨v, h1, h2⟩ := h f (List.mem_cons_self ..)
    have ih := eqFields_self w d xs fs fun f' hf => h f' (List.mem_cons_of_mem _ hf)
    unfold Op.eqFields
    split
    · simp only [Sem.run_bind, h1, h2, Result.andThen_ok, Bool.not_true, Bool.false_eq_true, if_false]
      exact ih
    · exact ih
theorem fields50 : (Try.prog.fieldsOf 50).toList.map (fun f => (f.type, f.offset)) = [(47, 0), (31, 1), (27, 33), (48, 34), (3, 35), (4, 36)] := by kernel_rfl
theorem enc_at {x : Answer} {i : Nat} {v : Value} (h : nth x.enc i = some v) : x.enc.toArray[i]? = some v := by
  unfold nth at h
  rw [List.getElem?_toArray]
  exact h
theorem eq50 (w : World) (x : Answer) : (Op.equalIn 10000 50 (.agg x.enc.toArray) (.agg x.enc.toArray)).run Try.prog w = .ok true w := by
  rw [run_equalIn_struct w 9999 50 _ _ (by kernel_rfl) (by kernel_rfl)]
  refine eqFields_self w 9999 _ _ fun f hf => ?_
  have hm : (f.type, f.offset) ∈ (Try.prog.fieldsOf 50).toList.map (fun f => (f.type, f.offset)) := List.mem_map.2 ⟨f, hf, rfl⟩
  rw [fields50] at hm
  simp only [List.mem_cons, Prod.mk.injEq, List.mem_nil_iff, or_false] at hm
  rcases hm with ⟨h1, h2⟩ | ⟨h1, h2⟩ | ⟨h1, h2⟩ | ⟨h1, h2⟩ | ⟨h1, h2⟩ | ⟨h1, h2⟩ <;> rw [h1, h2]
  · exact ⟨_, run_part_plain w (by kernel_rfl) (enc_at (Answer.code_get x)), by rw [run_equalIn_int w 9998 47 .i64 .i64 _ _ Try.underlying47]; simp⟩
  · have hs : (x.enc.toArray.toList.drop 1).take (Try.prog.cellsOf 31) = arr u8v x.sum := by
      rw [cells31']
      exact Answer.sum_get x
    have hk : Try.prog.keyTypeAt 2 31 = true := by kernel_rfl
    obtain ⟨a, b, r, p1, p2, p3, p4⟩ := run_step_deep (P := Try.prog) w (run_equalIn_deep 9997 2 31 hk) (D := 2) (D' := 2) (off := 1) (xs := x.enc.toArray) (ys := x.enc.toArray) (by rw [hs]; exact lits31 x.sum) (by rw [hs]; exact lits31 x.sum)
    rw [p1] at p2
    injection p2 with p2 _
    subst p2
    exact ⟨a, p1, by rw [p3, p4.2 rfl]⟩
  · exact ⟨_, run_part_plain w (by kernel_rfl) (enc_at (Answer.len_get x)), by rw [run_equalIn_int w 9998 27 .u64 .u64 _ _ Try.underlying27]; simp⟩
  · exact ⟨_, run_part_plain w (by kernel_rfl) (enc_at (Answer.mark_get x)), by rw [run_equalIn_int w 9998 48 .i64 .i64 _ _ Try.underlying48]; simp⟩
  · exact ⟨_, run_part_plain w (by kernel_rfl) (enc_at (Answer.noted_get x)), by rw [run_equalIn_int w 9998 3 .i64 .i64 _ _ Try.underlying3]; simp⟩
  · exact ⟨_, run_part_plain w (by kernel_rfl) (enc_at (Answer.collided_get x)), by rw [run_equalIn_bool w 9998 4 _ _ Try.underlying4]; simp⟩
theorem neq50_op (ev : Operand → Value) (x y : Operand) (an : Answer) (dst : Option Tmp) (ty : TypeId) (pos : String) (after : Array Edge) (guard : Option (Nat × Bool)) (w : World) (hx : ev x = .agg an.enc.toArray) (hy : ev y = .agg an.enc.toArray) :
    (execOp ev { dst, op := .binOp .neq 50 x y 50, type := ty, pos, after, guard }).run Try.prog w = .ok (.value (.bool false)) w := by
  have h1 : (binOp .neq 50 (.agg an.enc.toArray) (.agg an.enc.toArray)).run Try.prog w = .ok (.bool false) w := by rw [run_neq_struct, eq50]; rfl
  unfold execOp
  simp only [hx, hy]
  have ht : Try.prog.eqGuardType Try.prog.depth 50 = false := by kernel_rfl
  have hg : (eqGuard .neq 50 x y (.agg an.enc.toArray) (.agg an.enc.toArray)).run Try.prog w = .ok () w := by
    unfold eqGuard
    simp [Sem.run_bind, run_program, ht]
  simp only [Sem.run_bind, hg, Result.andThen_ok, h1]
  rfl
theorem ans_eq {w : World} {bp : Nat} {p : Player} {S : PS} {X : Nat → Prop} {W : World} (h : PlayAt w bp p S X W) (c : Int) (d : Vector UInt8 32) (m : Int) : stepAns c d m p = ansOf S c d m := by
  obtain ⟨ns, ix, hL⟩ := h.log
  have h1 : p.log.entries.len = S.A.es.length := by
    obtain ⟨S', e, hl⟩ := row_val hL.rowE
    simp only [Sl.val] at e
    injection e with _ e2 _
    rw [e2, hl, hL.clen]
  unfold stepAns ansOf
  rw [h.rh.len, h1, hL.fnd]
theorem dom_facts (x : UInt8) : (okDom x = true → ¬ w8 x < 1 ∧ ¬ 8 < w8 x) ∧ (okDom x = false → w8 x < 1 ∨ (¬ w8 x < 1 ∧ 8 < w8 x)) := by
  unfold okDom w8
  constructor
  · intro h
    simp at h
    omega
  · intro h
    simp at h
    omega
theorem mstep_any (w W : World) (bm : Nat) (st : GState) (S : PS) (g : GOp) (xs : List UInt8) (hM : MAt w bm st S S.A.es S.A.es W) (hFd : MFd st S.A) (hX : BytesAt w.heap.size w g.data.a g.data.len g.data.cap xs) (hdl : g.data.len ≤ 65536) (hmh : S.mh.length ≤ 8589934592) (hma : S.ma.length ≤ 8589934592) (hes : S.A.es.length ≤ 70000) :
    Calls Try.prog 20 #[.pointer (some ⟨bm, 0, none⟩), .agg g.enc.toArray] W fun e W' => MPost w bm st (stepF S g xs).1 (stepF S g xs).2.1 (stepF S g xs).2.2.1 (stepF S g xs).2.2.2 W e W' := by
  by_cases h1 : g.kind = 1
  · rw [stepF_1 h1]
    exact mstep_1 w W bm st S g xs hM hFd hX hdl hmh hes W st (MOut.of_ext (ext_Ext (Ext.refl W))) h1
  by_cases h2 : g.kind = 2
  · rw [stepF_2 h2]
    exact mstep_2 w W bm st S g xs hM hFd hX hdl hmh hes W st (MOut.of_ext (ext_Ext (Ext.refl W))) h2
  by_cases h3 : g.kind = 3
  · rw [stepF_3 h3]
    exact mstep_3 w W bm st S g xs hM hFd hX hdl hmh hes W st (MOut.of_ext (ext_Ext (Ext.refl W))) h3
  by_cases h4 : g.kind = 4
  · rw [stepF_4 h4]
    exact mstep_4 w W bm st S g xs hM hFd hX hdl hmh hes W st (MOut.of_ext (ext_Ext (Ext.refl W))) h4
  by_cases h5 : g.kind = 5
  · rw [stepF_5 h5]
    exact mstep_5 w W bm st S g xs hM hFd hX hdl hmh hes W st (MOut.of_ext (ext_Ext (Ext.refl W))) h5
  by_cases h6 : g.kind = 6
  · rw [stepF_6 h6]
    exact mstep_6 w W bm st S g xs hM hFd hX hdl hmh hes W st (MOut.of_ext (ext_Ext (Ext.refl W))) h6
  by_cases h7 : g.kind = 7
  · rw [stepF_7 h7]
    exact mstep_7 w W bm st S g xs hM hFd hX hdl hmh hes W st (MOut.of_ext (ext_Ext (Ext.refl W))) h7
  by_cases h8 : g.kind = 8
  · rw [stepF_8 h8]
    exact mstep_8 w W bm st S g xs hM hFd hX hdl hmh hes W st (MOut.of_ext (ext_Ext (Ext.refl W))) h8 hma
  by_cases h9 : g.kind = 9
  · cases hd : okDom g.dom with
    | true =>
      rw [stepF_9 h9 hd]
      exact mstep_9 w W bm st S g xs hM hFd hX hdl hmh hes W st (MOut.of_ext (ext_Ext (Ext.refl W))) h9 ((dom_facts g.dom).1 hd).1 ((dom_facts g.dom).1 hd).2
    | false =>
      rw [stepF_9b h9 hd]
      rcases (dom_facts g.dom).2 hd with q | q
      · exact mstep_9x w W bm st S g xs hM hFd hX hdl hmh hes W st (MOut.of_ext (ext_Ext (Ext.refl W))) h9 q
      · exact mstep_9y w W bm st S g xs hM hFd hX hdl hmh hes W st (MOut.of_ext (ext_Ext (Ext.refl W))) h9 q.1 q.2
  by_cases h10 : g.kind = 10
  · rw [stepF_10 h10]
    exact mstep_10 w W bm st S g xs hM hFd hX hdl hmh hes W st (MOut.of_ext (ext_Ext (Ext.refl W))) h10
  by_cases h11 : g.kind = 11
  · by_cases hn : 0 ≤ g.n ∧ g.n ≤ 10
    · rw [stepF_11 h11 hn]
      exact mstep_11 w W bm st S g xs hM hFd hX hdl hmh hes W st (MOut.of_ext (ext_Ext (Ext.refl W))) h11 g.n.toNat (by omega) (by omega)
    · rw [stepF_11b h11 hn]
      by_cases q : g.n < 0
      · exact mstep_11x w W bm st S g xs hM hFd hX hdl hmh hes W st (MOut.of_ext (ext_Ext (Ext.refl W))) h11 q
      · exact mstep_11y w W bm st S g xs hM hFd hX hdl hmh hes W st (MOut.of_ext (ext_Ext (Ext.refl W))) h11 q (by omega)
  by_cases h12 : g.kind = 12
  · rw [stepF_12 h12]
    exact mstep_12 w W bm st S g xs hM hFd hX hdl hmh hes W st (MOut.of_ext (ext_Ext (Ext.refl W))) h12
  by_cases h13 : g.kind = 13
  · cases hd : parseH xs with
    | some d =>
      rw [stepF_13 h13 hd]
      exact mstep_13 w W bm st S g xs hM hFd hX hdl hmh hes W st (MOut.of_ext (ext_Ext (Ext.refl W))) h13 d hd
    | none =>
      rw [stepF_13b h13 hd]
      by_cases hl : xs.length = 64
      · exact mstep_13b w W bm st S g xs hM hFd hX hdl hmh hes W st (MOut.of_ext (ext_Ext (Ext.refl W))) h13 hl hd
      · exact mstep_13c w W bm st S g xs hM hFd hX hdl hmh hes W st (MOut.of_ext (ext_Ext (Ext.refl W))) h13 hl
  rw [stepF_0 h1 h2 h3 h4 h5 h6 h7 h8 h9 h10 h11 h12 h13]
  exact mstep_0 w W bm st S g xs hM hFd hX hdl hmh hes W st (MOut.of_ext (ext_Ext (Ext.refl W))) h1 h2 h3 h4 h5 h6 h7 h8 h9 h10 h11 h12 h13
theorem LogOk.zero (B : Nat) (X : Nat → Prop) (W : World) : LogOk B W GLog.zero [] (fun _ => []) ⟨[], none⟩ X := by
  refine ⟨⟨rfl, .inl ⟨rfl, rfl⟩⟩, rfl, fun j n e hn => by simp at hn, fun s h => ⟨rfl, .inl ⟨?_, rfl⟩⟩, fun s h j hj => by simp at hj, fun s h => Nat.le_refl _, fun s t hs ht hst k hk => ?_, fun s hs => rfl, rfl, fun i j h => by simp at h⟩
  · simp [GLog.zero, Sl.val]
  · simp [GLog.zero, Sl.val, Value.ownBlock] at hk
theorem PlayAt.new {w w2 : World} {p0 : Player} (X : Nat → Prop) (he : Ext w w2) (h1 : Rep p0.hand []) (h2 : Rep p0.aside []) (h3 : p0.prev = Z32) (h4 : p0.last = Z32) (hl : p0.log = GLog.zero) : PlayAt w w2.heap.size p0 ⟨[], [], Z32, Z32, ⟨[], none⟩⟩ X (w2.alloc (.cells p0.enc.toArray 38)) :=
  ⟨by rw [blk_alloc, if_pos rfl], by rw [free_alloc, if_pos rfl], h1, h2, h3, h4, ⟨[], fun _ => [], by rw [hl]; exact LogOk.zero _ _ _⟩, he.size, extends_alloc (ext_Ext he) _⟩
theorem MAt.new {w W : World} (h : w.Extends W) : MAt w W.heap.size GState.zero ⟨[], [], Z32, Z32, ⟨[], none⟩⟩ [] [] (W.alloc (.cells GState.zero.enc.toArray 60)) := by
  have hh : (W.alloc (.cells GState.zero.enc.toArray 60)).heap[W.heap.size]? = some (.cells GState.zero.enc.toArray 60) := by rw [heap_alloc, if_pos rfl]
  exact ⟨by rw [blk_alloc, if_pos rfl], by rw [free_alloc, if_pos rfl], ⟨_, _, hh⟩, OwnB.nil _ _, OwnB.nil _ _, fun k q => by simp [GState.zero, Sl.val, Value.ownBlock] at q, rfl, rfl, InsI.nil _ _ _ _, InsS.nil _ _, h.size, extends_alloc h _⟩
theorem InsI.two {w : World} {B : Nat} {X : Nat → Prop} {W : World} {v : Sl} {L : List Ent} (h : InsI w B X W v L) (he : w.Extends W) {i j : Nat} {d e : Ent} (hi : L[i]? = some d) (hj : L[j]? = some e) :
    ∃ g c C s t, v = ⟨some ⟨g, 0, none⟩, L.length, c⟩ ∧ blk W g = some C ∧ nth C i = some (Sl.val s) ∧ BytesAt W.heap.size W s.a s.len s.cap d.1 ∧ nth C j = some (Sl.val t) ∧ BytesAt W.heap.size W t.a t.len t.cap e.1 := by
  obtain ⟨g, c, C, s, h1, h2, h3, h4⟩ := h.at he hi
  obtain ⟨g', c', C', t, q1, q2, q3, q4⟩ := h.at he hj
  rw [h1] at q1
  injection q1 with z1 _ z3
  injection z1 with z1
  injection z1 with z1
  subst z1
  rw [h2] at q2
  obtain rfl := Option.some.inj q2
  exact ⟨g, c, C, s, t, h1, h2, h3, h4, q3, q4⟩
set_option maxRecDepth 100000 in
theorem frame68 (f : Nat → Value) : frameN 68 f = #[f 0, f 1, f 2, f 3, f 4, f 5, f 6, f 7, f 8, f 9, f 10, f 11, f 12, f 13, f 14, f 15, f 16, f 17, f 18, f 19, f 20, f 21, f 22, f 23, f 24, f 25, f 26, f 27, f 28, f 29, f 30, f 31, f 32, f 33, f 34, f 35, f 36, f 37, f 38, f 39, f 40, f 41, f 42, f 43, f 44, f 45, f 46, f 47, f 48, f 49, f 50, f 51, f 52, f 53, f 54, f 55, f 56, f 57, f 58, f 59, f 60, f 61, f 62, f 63, f 64, f 65, f 66, f 67] := by kernel_rfl
def Good' (A : ALog) : Prop := ∀ i j, A.fd = some (i, j) → i < A.es.length ∧ j < A.es.length
theorem good_note {A : ALog} (h : Good' A) (x : Ent) : Good' (noteA A x).1 := by
  unfold noteA
  by_cases hx : x ∈ A.es
  · rw [if_pos hx]; exact h
  · rw [if_neg hx]
    cases hf : A.es.findIdx? (fun e => decide (e.2 = x.2)) with
    | none => exact fun i j hij => by have := h i j hij; simp; omega
    | some r =>
      obtain ⟨hr, _⟩ := List.findIdx?_eq_some_iff_getElem.1 hf
      cases hq : A.fd with
      | some q => exact fun i j hij => by have := h i j (hq.trans hij); simp; omega
      | none =>
        intro i j hij
        simp only [Option.some.injEq, Prod.mk.injEq] at hij
        simp
        omega
theorem good_step {S : PS} (h : Good' S.A) (g : GOp) (xs : List UInt8) : Good' (stepF S g xs).1.A := by
  by_cases h1 : g.kind = 1
  · rw [stepF_1 h1]; exact h
  by_cases h2 : g.kind = 2
  · rw [stepF_2 h2]; exact h
  by_cases h3 : g.kind = 3
  · rw [stepF_3 h3]; exact h
  by_cases h4 : g.kind = 4
  · rw [stepF_4 h4]; exact h
  by_cases h5 : g.kind = 5
  · rw [stepF_5 h5]; exact h
  by_cases h6 : g.kind = 6
  · rw [stepF_6 h6]; exact h
  by_cases h7 : g.kind = 7
  · rw [stepF_7 h7]; exact h
  by_cases h8 : g.kind = 8
  · rw [stepF_8 h8]; exact h
  by_cases h9 : g.kind = 9
  · cases hd : okDom g.dom with
    | true => rw [stepF_9 h9 hd]; exact good_note h _
    | false => rw [stepF_9b h9 hd]; exact h
  by_cases h10 : g.kind = 10
  · rw [stepF_10 h10]; exact good_note h _
  by_cases h11 : g.kind = 11
  · by_cases hn : 0 ≤ g.n ∧ g.n ≤ 10
    · rw [stepF_11 h11 hn]; exact h
    · rw [stepF_11b h11 hn]; exact h
  by_cases h12 : g.kind = 12
  · rw [stepF_12 h12]; exact good_note h _
  by_cases h13 : g.kind = 13
  · cases hd : parseH xs with
    | some d => rw [stepF_13 h13 hd]; exact h
    | none => rw [stepF_13b h13 hd]; exact h
  rw [stepF_0 h1 h2 h3 h4 h5 h6 h7 h8 h9 h10 h11 h12 h13]; exact h
def rfI (w : World) (a : Option Addr) (len cap bp bm : Nat) (f : Nat → Value) (W : World) : Prop :=
  f 0 = .slice a len cap ∧ f 15 = .slice a len cap ∧ f 16 = .int .i64 (len : Nat) ∧ f 3 = .pointer (some ⟨bp, 0, none⟩) ∧ f 4 = .pointer (some ⟨bm, 0, none⟩) ∧ ∃ (i : Nat) (p : Player) (st : GState) (S : PS), i ≤ len ∧ f 17 = .int .i64 (i : Nat) ∧
    S.A.es.length ≤ i ∧ S.mh.length ≤ cap16 i ∧ S.ma.length ≤ cap16 i ∧ Hid (PlayAt w bp p S (hx st) W) ∧ Hid (MAt w bm st S S.A.es S.A.es W) ∧ Hid (MFd st S.A) ∧ Hid (Good' S.A)
set_option maxRecDepth 20000 in
set_option maxHeartbeats 4000000 in
theorem refines_walk (w : World) (a : Option Addr) (len cap : Nat) (g : Nat → GOp) (dt : Nat → List UInt8) (hS : ScriptAt w a len cap g dt) :
    Calls Try.prog 4 #[.slice a len cap] w fun e w' => e = .returned (.bool true) ∧ w.Extends w' := by
  have HS : Hid (ScriptAt w a len cap g dt) := hS
  clear hS
  go_enter Try.func4, Try.ntmps4
  go_wp2_with fail
  refine (small_any w a len cap g dt HS.out).mono ?_
  rintro e w1 ⟨⟨r, rfl, hr⟩, hw1⟩
  subst hw1
  cases r with
  | false =>
    go_wp2_with fail
    go_ret
    exact ⟨rfl, ext_Ext (Ext.refl _)⟩
  | true =>
    obtain ⟨hl, hsm⟩ := hr rfl
    have HSM : Hid (∀ i, i < len → (g i).data.len ≤ 65536) := hsm
    clear hr hsm
    go_wp2_with fail
    refine (newPlayer_any w1).mono ?_
    rintro e w2 ⟨⟨p0, rfl, hr1, hr2, hr3, hr4, hlg⟩, hE2⟩
    have hPL := PlayAt.new (hx GState.zero) hE2 hr1 hr2 hr3 hr4 hlg
    have HML : Hid (MAt w1 (w2.heap.size + 1) GState.zero ⟨[], [], Z32, Z32, ⟨[], none⟩⟩ [] [] ((w2.alloc (.cells p0.enc.toArray 38)).alloc (.cells GState.zero.enc.toArray 60))) := by
      have h1 := MAt.new (W := w2.alloc (.cells p0.enc.toArray 38)) hPL.ext
      rw [World.size_alloc] at h1
      exact h1
    have HPL : Hid (PlayAt w1 w2.heap.size p0 ⟨[], [], Z32, Z32, ⟨[], none⟩⟩ (hx GState.zero) ((w2.alloc (.cells p0.enc.toArray 38)).alloc (.cells GState.zero.enc.toArray 60))) := hPL.grow (extends_alloc (ext_Ext (Ext.refl _)) _)
    clear hr1 hr2 hE2 hlg hr3 hr4 hPL
    go_wp2_with fail
    refine wp_loop_f 68 (rfI w1 a len cap w2.heap.size (w2.heap.size + 1)) (fun f _ => len - (intOf (f 17)).toNat) rfl ?_ ?_
    · exact ⟨rfl, rfl, rfl, rfl, rfl, 0, p0, GState.zero, _, by omega, rfl, by simp, by simp, by simp, HPL, HML, ⟨rfl, fun i j h => by simp at h⟩, fun i j h => by simp at h⟩
    obtain ⟨w, hw⟩ : ∃ w, w = w1 := ⟨_, rfl⟩
    rw [← hw] at HS ⊢
    obtain ⟨bp, hbp⟩ : ∃ bp, bp = w2.heap.size := ⟨_, rfl⟩
    obtain ⟨bm, hbm⟩ : ∃ bm, bm = w2.heap.size + 1 := ⟨_, rfl⟩
    have hpm : bp < bm := by omega
    rw [← hbm, ← hbp]
    clear HPL HML hbp hbm
    intro F W hrel
    obtain ⟨h0, hr, hln, h3, h4, i, p, st, S, hi, hiv, hAi, hlh, hls, HP0, HM0, HF0, HG0⟩ := hrel
    have HIV : Hid (F 17 = .int .i64 (i : Nat)) := hiv
    rw [frame68, h0, hr, hln, h3, h4, hiv]
    clear h0 hr hln h3 hiv h4
    have hcap := cap16_succ i
    have hcapl := cap16_le (i + 1) (by omega)
    by_cases hil : i < len
    · have hSW := HS.out.mono HP0.out.ext
      obtain ⟨b, o, C, rfl, hC, hlen, hseg⟩ := hSW.2.2.2 (by omega)
      have hsx := hseg i hil
      have HXw := HS.out.bytes hil (HSM.out i hil)
      obtain ⟨op, hop⟩ : ∃ op, op = g i := ⟨_, rfl⟩
      rw [← hop] at hsx HXw
      have HX0 : Hid (BytesAt w.heap.size w op.data.a op.data.len op.data.cap (dt i)) := HXw
      have hdl : op.data.len ≤ 65536 := by rw [hop]; exact HSM.out i hil
      clear hSW hseg hop HXw
      have q0 : (0 : Int) ≤ (i : Int) := by omega
      have q1 : (i : Int) < (len : Int) := by omega
      have q2 : ((i : Int)).toNat = i := by omega
      have q3 : o + i * 39 + 39 ≤ C.length := by omega
      go_upto_region 8 with fail
      refine wp_world (fun W1 => blk W1 W.heap.size = some op.enc ∧ Hid (PlayAt w bp p S (hx st) W1) ∧ Hid (MAt w bm st S S.A.es S.A.es W1) ∧ Hid (TyAt W1 W.heap.size 44)) ⟨?_, HP0.out.grow (extends_alloc (ext_Ext (Ext.refl _)) _), HM0.out.grow (extends_alloc (ext_Ext (Ext.refl _)) _), ?_⟩ ?_
      · rw [blk_alloc, if_pos rfl]
      · show TyAt _ _ _
        unfold TyAt
        rw [heap_alloc, if_pos rfl]
        exact ⟨_, _, rfl⟩
      have HBPW : Hid (bm < W.heap.size) := HM0.out.lt
      rintro W1 ⟨hbo, HP1, HM1, HTY⟩
      obtain ⟨bo, hboe⟩ : ∃ bo, bo = W.heap.size := ⟨_, rfl⟩
      rw [← hboe] at hbo HBPW HTY ⊢
      have hbpo := HBPW.out
      clear hboe hC HP0 HM0 hsx HBPW
      obtain ⟨hF1, hF2, hF3⟩ := stepF_small S op (dt i) (by rw [HX0.out.1]; exact hdl) (cap16 i) hlh hls
      go_wp2_with fail
      refine wp_region_held_drew (S := fun W' => blk W' bo = some op.enc ∧ True) (by kernel_rfl) ⟨hbo, trivial⟩ (fun hHeld => ?_)
      refine wpAnyH_take (i := 0) (oi := ⟨_, _, _, _, _, _⟩) (v := ?_) rfl (by kernel_rfl) (by kernel_rfl) (by kernel_rfl) (fun _ _ _ h => h) (Or.inl ⟨by rfl, ?_⟩) (by assumption) ?_
      rotate_left 1
      · intro W' hSw
        obtain ⟨hS1, hS2⟩ := hSw
        go_simp
        try with_reducible rfl
      try simp only [Act.put, List.setIfInBounds_toArray, List.set_cons_zero, List.set_cons_succ]
      refine wpAnyH_take (i := 2) (oi := ⟨_, _, _, _, _, _⟩) (v := ?_) rfl (by kernel_rfl) (by kernel_rfl) (by kernel_rfl) (fun _ _ _ h => h) (Or.inl ⟨by rfl, ?_⟩) (by assumption) ?_
      rotate_left 1
      · intro W' hSw
        obtain ⟨hS1, hS2⟩ := hSw
        go_simp
        try with_reducible rfl
      try simp only [Act.put, List.setIfInBounds_toArray, List.set_cons_zero, List.set_cons_succ]
      refine wpAnyH_ready (rs := [1]) (by kernel_rfl) (by simp) ?_
      refine AllReadyH.cons (o := ⟨_, _, _, _, _, _⟩) rfl (fun K hK => ?_) AllReadyH.nil
      go_simp
      have HP1d := HP1.out.grow (extends_drew (ext_Ext (Ext.refl W1)))
      have HM1d := HM1.out.grow (extends_drew (ext_Ext (Ext.refl W1)))
      refine (step_any w W1.drew bp p op S (hx st) (fun k hk => (HM1d.hx_lt hk).2.1) (dt i) HP1d HX0.out hdl (by omega) (by omega)).mono ?_
      rintro e W2 ⟨p', rfl, hP2, hbs⟩
      rw [ans_eq hP2]
      have HP2 : Hid (PlayAt w bp p' (stepF S op (dt i)).1 (hx st) W2) := hP2
      have HM2 : Hid (MAt w bm st S S.A.es S.A.es W2) := HM1d.beside hpm hbs hP2.ext
      have hko : W2.heap[bo]? = W1.heap[bo]? := hbs bo HTY.out.lt (by omega) (HTY.out.not_row (by decide))
      have hbo2 := (blk_of_heap hko).trans hbo
      have HTY2 : Hid (TyAt W2 bo 44) := HTY.out.of_heap hko
      dsimp only
      refine hK.out _ _ ?_ (fun hHeld => ?_)
      · exact ⟨hbo2, trivial⟩
      clear hK K
      clear hP2 hbs hko HP1d HM1d
      try simp only [Act.put, List.setIfInBounds_toArray, List.set_cons_zero, List.set_cons_succ]
      refine wpAnyH_ready (rs := [3]) (by kernel_rfl) (by simp) ?_
      refine AllReadyH.cons (o := ⟨_, _, _, _, _, _⟩) rfl (fun K hK => ?_) AllReadyH.nil
      go_simp
      refine (mstep_any w W2 bm st S op (dt i) HM2.out HF0.out HX0.out hdl (by omega) (by omega) (by omega)).mono ?_
      rintro e W3 ⟨st', rfl, hM3, hF3', hMO3⟩
      have HM3 : Hid (MAt w bm st' (stepF S op (dt i)).1 (stepF S op (dt i)).1.A.es (stepF S op (dt i)).1.A.es W3) := hM3
      have HF3 : Hid (MFd st' (stepF S op (dt i)).1.A) := hF3'
      have HP3 : Hid (PlayAt w bp p' (stepF S op (dt i)).1 (hx st') W3) := HP2.out.mstep (w' := w) hMO3 hpm (HM2.out.ty.not_log (by decide)) (fun k hk => ⟨(HM2.out.hx_lt hk).1, (HM2.out.hx_lt hk).2.2⟩)
      have hko3 : W3.heap[bo]? = W2.heap[bo]? := hMO3.keep bo HTY2.out.lt (by omega) (fun q => HTY2.out.ne (by decide) (HM2.out.hx_lt q).2.2) (.inr ⟨HTY2.out.ne (by decide), HTY2.out.ne (by decide)⟩)
      have hbo3 := (blk_of_heap hko3).trans hbo2
      obtain ⟨an, han⟩ : ∃ an, an = ansOf (stepF S op (dt i)).1 (stepF S op (dt i)).2.1 (stepF S op (dt i)).2.2.1 (stepF S op (dt i)).2.2.2 := ⟨_, rfl⟩
      rw [← han]
      dsimp only
      refine hK.out _ _ ?_ (fun hHeld => ?_)
      · exact ⟨hbo3, trivial⟩
      clear hK K
      clear hM3 hF3' hMO3 hko3 han
      try simp only [Act.put, List.setIfInBounds_toArray, List.set_cons_zero, List.set_cons_succ]
      refine wpAnyH_take (i := 4) (oi := ⟨_, _, _, _, _, _⟩) (v := .bool false) rfl (by kernel_rfl) (by kernel_rfl) (by kernel_rfl) (fun _ _ _ h => h) (Or.inl ⟨by rfl, ?_⟩) (by assumption) ?_
      · intro W' hSw
        exact neq50_op _ _ _ an _ _ _ _ _ _ rfl rfl
      try simp only [Act.put, List.setIfInBounds_toArray, List.set_cons_zero, List.set_cons_succ]
      refine wpAnyH_done (by kernel_rfl) ?_ _
      have HG3 : Hid (Good' (stepF S op (dt i)).1.A) := good_step HG0.out op (dt i)
      go_wp2_with fail
      refine ⟨rfl, rfl, ?_, ?_⟩
      · refine ⟨rfl, rfl, rfl, rfl, rfl, i + 1, p', st', (stepF S op (dt i)).1, by omega, ?_, by omega, by omega, by omega, HP3, HM3, HF3, HG3⟩
        show Value.int .i64 _ = _
        go_num
      · show len - (intOf (Value.int .i64 _)).toNat < len - (intOf (F 17)).toNat
        rw [HIV.out]
        simp [intOf]; omega
    · obtain rfl : i = len := by omega
      obtain ⟨ns, ix, hL⟩ := HP0.out.log
      have HL : Hid (LogOk (bp + 1) W p.log ns ix S.A (hx st)) := hL
      have hns7 : ns.length ≤ 70000 := by have := hL.clen; omega
      have hbV : blk W bp = some (splice p.enc 212 p.log.enc) := by rw [log_eq]; exact HP0.out.blk
      have hbm0 := HM0.out.blk
      clear hL
      cases hfd : S.A.fd with
      | none =>
        have hcol : st.collided = false := by rw [HF0.out.1, hfd]; rfl
        have h68 : nth st.enc 68 = some (.bool false) := by rw [GState.collided_get, hcol]
        obtain ⟨D, hD⟩ : ∃ D, D = st.enc := ⟨_, rfl⟩
        rw [← hD] at hbm0 h68
        clear hD hcol
        go_wp2_with fail
        refine (witness_no W (bp + 1) bp 212 p.enc p.log ns ix S.A (hx st) hbV (by rw [Player.length_enc]; omega) HL.out hfd).mono ?_
        rintro e V2 ⟨rfl, he2⟩
        have hxx : W.Extends (V2.alloc (.cells (arr u8v (Vector.replicate 32 (0 : UInt8))).toArray 31)) := extends_alloc (ext_Ext he2) _
        have HP2 : Hid (PlayAt w bp p S (hx st) (V2.alloc (.cells (arr u8v (Vector.replicate 32 (0 : UInt8))).toArray 31))) := HP0.out.grow hxx
        have hbm2 := (hxx.blk HM0.out.lt).trans hbm0
        obtain ⟨V3, hV3⟩ : ∃ V3, V3 = V2.alloc (.cells (arr u8v (Vector.replicate 32 (0 : UInt8))).toArray 31) := ⟨_, rfl⟩
        rw [← hV3] at HP2 hbm2
        clear he2 hbV hxx
        go_upto_region 12 with fail
        rw [← hV3]
        clear hV3
        go_wp2_with fail
        go_ret
        exact ⟨rfl, by rw [← hw]; exact HP2.out.ext⟩
      | some q =>
        obtain ⟨ci, cj⟩ := q
        obtain ⟨hci, hcj⟩ := HG0.out ci cj hfd
        obtain ⟨x, hxe⟩ : ∃ x, S.A.es[ci]? = some x := ⟨_, List.getElem?_eq_some_iff.2 ⟨hci, rfl⟩⟩
        obtain ⟨y, hye⟩ : ∃ y, S.A.es[cj]? = some y := ⟨_, List.getElem?_eq_some_iff.2 ⟨hcj, rfl⟩⟩
        have hcol : st.collided = true := by rw [HF0.out.1, hfd]; rfl
        obtain ⟨hol, hyo⟩ := HF0.out.2 ci cj hfd
        go_wp2_with fail
        refine (witness_yes W (bp + 1) bp 212 p.enc p.log ns ix S.A (hx st) ci cj x y hbV (by rw [Player.length_enc]; omega) HL.out hfd hxe hye hns7).mono ?_
        rintro e V2 ⟨v1, v2, rfl, ho1, ho2, he2⟩
        have hxl : x.1.length ≤ 70000 := by
          obtain ⟨e, q1, q2, _⟩ := HL.out.ent (j := ci) (by rw [← HL.out.clen]; exact hci)
          rw [hxe] at q1
          obtain rfl := Option.some.inj q1
          exact q2
        have hyl : y.1.length ≤ 70000 := by
          obtain ⟨e, q1, q2, _⟩ := HL.out.ent (j := cj) (by rw [← HL.out.clen]; exact hcj)
          rw [hye] at q1
          obtain rfl := Option.some.inj q1
          exact q2
        obtain ⟨a1, c1, rfl, hX1⟩ := own_bytes ho1 (by omega)
        obtain ⟨a2, c2, rfl, hX2⟩ := own_bytes ho2 (by omega)
        obtain ⟨x1, x2⟩ := x
        obtain ⟨y1, y2⟩ := y
        simp only at hX1 hX2 hxl hyl ⊢
        obtain ⟨l1, hl1⟩ : ∃ l1, l1 = x1.length := ⟨_, rfl⟩
        obtain ⟨l2, hl2⟩ : ∃ l2, l2 = y1.length := ⟨_, rfl⟩
        rw [← hl1] at hX1 ⊢
        rw [← hl2] at hX2 ⊢
        clear hl1 hl2
        have hxa : V2.Extends (V2.alloc (.cells (arr u8v x2).toArray 31)) := extends_alloc (ext_Ext (Ext.refl _)) _
        obtain ⟨bz, hbz⟩ : ∃ bz, bz = V2.heap.size := ⟨_, rfl⟩
        have HXa : Hid (BytesAt (V2.alloc (.cells (arr u8v x2).toArray 31)).heap.size (V2.alloc (.cells (arr u8v x2).toArray 31)) a1 l1 c1 x1) := hX1.grow hxa
        have HXb : Hid (BytesAt (V2.alloc (.cells (arr u8v x2).toArray 31)).heap.size (V2.alloc (.cells (arr u8v x2).toArray 31)) a2 l2 c2 y1) := hX2.grow hxa
        have HP2 : Hid (PlayAt w bp p S (hx st) (V2.alloc (.cells (arr u8v x2).toArray 31))) := HP0.out.grow (he2.trans hxa)
        have HM2 : Hid (MAt w bm st S S.A.es S.A.es (V2.alloc (.cells (arr u8v x2).toArray 31))) := HM0.out.grow (he2.trans hxa)
        have HZ2 : blk (V2.alloc (.cells (arr u8v x2).toArray 31)) bz = some (arr u8v x2) := by rw [hbz, blk_alloc, if_pos rfl]
        go_upto_region 12 with fail
        rw [← hbz]
        obtain ⟨V3, hV3⟩ : ∃ V3, V3 = V2.alloc (.cells (arr u8v x2).toArray 31) := ⟨_, rfl⟩
        rw [← hV3] at HXa HXb HP2 HM2 HZ2 ⊢
        clear hbz hV3 hX1 hX2 hxa he2 ho1 ho2 hbV hbm0
        obtain ⟨gi, cgi, Ci, s, t, hvi, hCi, hni, hsx, hnj, htx⟩ := HM2.out.ins.two HM2.out.ext hxe hye
        obtain ⟨gs, cgs, Cs, hvs, hCs, hls1, hsg1⟩ := HM2.out.sms.at hxe
        obtain ⟨m, hm⟩ : ∃ m, m = S.A.es.length := ⟨_, rfl⟩
        rw [← hm] at hvi hvs hci hcj
        have h66 : nth st.enc 66 = some (.slice (some ⟨gi, 0, none⟩) m cgi) := by rw [GState.inputs_get, hvi]; rfl
        have h67 : nth st.enc 67 = some (.slice (some ⟨gs, 0, none⟩) m cgs) := by rw [GState.sums_get, hvs]; rfl
        have h68 : nth st.enc 68 = some (.bool true) := by rw [GState.collided_get, hcol]
        have h69 : nth st.enc 69 = some (.int .i64 (ci : Nat)) := by rw [GState.older_get, hol]
        have h70 : nth st.enc 70 = some (.int .i64 (cj : Nat)) := by rw [GState.younger_get, hyo]
        have hD3 := HM2.out.blk
        obtain ⟨D, hD⟩ : ∃ D, D = st.enc := ⟨_, rfl⟩
        rw [← hD] at hD3 h66 h67 h68 h69 h70
        have HSX : Hid (BytesAt V3.heap.size V3 s.a s.len s.cap x1) := hsx
        have HTX : Hid (BytesAt V3.heap.size V3 t.a t.len t.cap y1) := htx
        have hsv : Sl.val s = .slice s.a s.len s.cap := rfl
        have htv : Sl.val t = .slice t.a t.len t.cap := rfl
        rw [hsv] at hni
        rw [htv] at hnj
        simp only at hsg1
        have r0 : (0 : Int) ≤ (ci : Int) := by omega
        have r1 : (ci : Int) < (m : Int) := by omega
        have r2 : ((ci : Int)).toNat = ci := by omega
        have r3 : (0 : Int) ≤ (cj : Int) := by omega
        have r4 : (cj : Int) < (m : Int) := by omega
        have r5 : ((cj : Int)).toNat = cj := by omega
        clear hvi hvs hsx htx hsv htv hD hm hcol hol hyo hxe hye hfd
        go_wp2_with fail
        refine wp_region_held_drew (S := fun W' => blk W' bm = some D ∧ blk W' gi = some Ci ∧ blk W' gs = some Cs ∧ blk W' bz = some (arr u8v x2)) (by kernel_rfl) ⟨hD3, hCi, hCs, HZ2⟩ (fun hHeld => ?_)
        refine wpAnyH_take (i := 0) (oi := ⟨_, _, _, _, _, _⟩) (v := ?_) rfl (by kernel_rfl) (by kernel_rfl) (by kernel_rfl) (fun _ _ _ h => h) (Or.inl ⟨by rfl, ?_⟩) (by assumption) ?_
        rotate_left 1
        · intro W' hSw
          obtain ⟨hS1, hS2, hS3, hS4⟩ := hSw
          go_simp
          try with_reducible rfl
        try simp only [Act.put, List.setIfInBounds_toArray, List.set_cons_zero, List.set_cons_succ]
        refine wpAnyH_take (i := 1) (oi := ⟨_, _, _, _, _, _⟩) (v := ?_) rfl (by kernel_rfl) (by kernel_rfl) (by kernel_rfl) (fun _ _ _ h => h) (Or.inl ⟨by rfl, ?_⟩) (by assumption) ?_
        rotate_left 1
        · intro W' hSw
          obtain ⟨hS1, hS2, hS3, hS4⟩ := hSw
          go_simp
          try with_reducible rfl
        try simp only [Act.put, List.setIfInBounds_toArray, List.set_cons_zero, List.set_cons_succ]
        refine wpAnyH_take (i := 2) (oi := ⟨_, _, _, _, _, _⟩) (v := ?_) rfl (by kernel_rfl) (by kernel_rfl) (by kernel_rfl) (fun _ _ _ h => h) (Or.inl ⟨by rfl, ?_⟩) (by assumption) ?_
        rotate_left 1
        · intro W' hSw
          obtain ⟨hS1, hS2, hS3, hS4⟩ := hSw
          go_simp
          try with_reducible rfl
        try simp only [Act.put, List.setIfInBounds_toArray, List.set_cons_zero, List.set_cons_succ]
        refine wpAnyH_take (i := 3) (oi := ⟨_, _, _, _, _, _⟩) (v := ?_) rfl (by kernel_rfl) (by kernel_rfl) (by kernel_rfl) (fun _ _ _ h => h) (Or.inl ⟨by rfl, ?_⟩) (by assumption) ?_
        rotate_left 1
        · intro W' hSw
          obtain ⟨hS1, hS2, hS3, hS4⟩ := hSw
          go_simp
          try with_reducible rfl
        try simp only [Act.put, List.setIfInBounds_toArray, List.set_cons_zero, List.set_cons_succ]
        refine wpAnyH_take (i := 4) (oi := ⟨_, _, _, _, _, _⟩) (v := ?_) rfl (by kernel_rfl) (by kernel_rfl) (by kernel_rfl) (fun _ _ _ h => h) (Or.inl ⟨by rfl, ?_⟩) (by assumption) ?_
        rotate_left 1
        · intro W' hSw
          obtain ⟨hS1, hS2, hS3, hS4⟩ := hSw
          go_simp
          try with_reducible rfl
        try simp only [Act.put, List.setIfInBounds_toArray, List.set_cons_zero, List.set_cons_succ]
        refine wpAnyH_take (i := 5) (oi := ⟨_, _, _, _, _, _⟩) (v := ?_) rfl (by kernel_rfl) (by kernel_rfl) (by kernel_rfl) (fun _ _ _ h => h) (Or.inl ⟨by rfl, ?_⟩) (by assumption) ?_
        rotate_left 1
        · intro W' hSw
          obtain ⟨hS1, hS2, hS3, hS4⟩ := hSw
          go_simp
          try with_reducible rfl
        try simp only [Act.put, List.setIfInBounds_toArray, List.set_cons_zero, List.set_cons_succ]
        refine wpAnyH_take (i := 6) (oi := ⟨_, _, _, _, _, _⟩) (v := ?_) rfl (by kernel_rfl) (by kernel_rfl) (by kernel_rfl) (fun _ _ _ h => h) (Or.inl ⟨by rfl, ?_⟩) (by assumption) ?_
        rotate_left 1
        · intro W' hSw
          obtain ⟨hS1, hS2, hS3, hS4⟩ := hSw
          go_simp
          try with_reducible rfl
        try simp only [Act.put, List.setIfInBounds_toArray, List.set_cons_zero, List.set_cons_succ]
        refine wpAnyH_ready (rs := [7]) (by kernel_rfl) (by simp) ?_
        refine AllReadyH.cons (o := ⟨_, _, _, _, _, _⟩) rfl (fun K hK => ?_) AllReadyH.nil
        go_simp
        refine (same_any V3.drew _ _ a1 s.a l1 s.len c1 s.cap x1 x1 (show BytesAt _ V3.drew _ _ _ _ from HXa.out) (show BytesAt _ V3.drew _ _ _ _ from HSX.out)).mono ?_
        rintro e' W4 ⟨rfl, n4, rfl⟩
        rw [decide_eq_true rfl]
        dsimp only
        refine hK.out _ _ ?_ (fun hHeld => ?_)
        · exact hHeld
        clear hK K
        try simp only [Act.put, List.setIfInBounds_toArray, List.set_cons_zero, List.set_cons_succ]
        refine wpAnyH_take (i := 8) (oi := ⟨_, _, _, _, _, _⟩) (v := ?_) rfl (by kernel_rfl) (by kernel_rfl) (by kernel_rfl) (fun _ _ _ h => h) (Or.inl ⟨by rfl, ?_⟩) (by assumption) ?_
        rotate_left 1
        · intro W' hSw
          obtain ⟨hS1, hS2, hS3, hS4⟩ := hSw
          go_simp
          try with_reducible rfl
        try simp only [Act.put, List.setIfInBounds_toArray, List.set_cons_zero, List.set_cons_succ]
        refine wpAnyH_take (i := 9) (oi := ⟨_, _, _, _, _, _⟩) (v := ?_) rfl (by kernel_rfl) (by kernel_rfl) (by kernel_rfl) (fun _ _ _ h => h) (Or.inl ⟨by rfl, ?_⟩) (by assumption) ?_
        rotate_left 1
        · intro W' hSw
          obtain ⟨hS1, hS2, hS3, hS4⟩ := hSw
          go_simp
          try with_reducible rfl
        try simp only [Act.put, List.setIfInBounds_toArray, List.set_cons_zero, List.set_cons_succ]
        refine wpAnyH_take (i := 10) (oi := ⟨_, _, _, _, _, _⟩) (v := ?_) rfl (by kernel_rfl) (by kernel_rfl) (by kernel_rfl) (fun _ _ _ h => h) (Or.inl ⟨by rfl, ?_⟩) (by assumption) ?_
        rotate_left 1
        · intro W' hSw
          obtain ⟨hS1, hS2, hS3, hS4⟩ := hSw
          go_simp
          try with_reducible rfl
        try simp only [Act.put, List.setIfInBounds_toArray, List.set_cons_zero, List.set_cons_succ]
        refine wpAnyH_take (i := 11) (oi := ⟨_, _, _, _, _, _⟩) (v := ?_) rfl (by kernel_rfl) (by kernel_rfl) (by kernel_rfl) (fun _ _ _ h => h) (Or.inl ⟨by rfl, ?_⟩) (by assumption) ?_
        rotate_left 1
        · intro W' hSw
          obtain ⟨hS1, hS2, hS3, hS4⟩ := hSw
          go_simp
          try with_reducible rfl
        try simp only [Act.put, List.setIfInBounds_toArray, List.set_cons_zero, List.set_cons_succ]
        refine wpAnyH_take (i := 12) (oi := ⟨_, _, _, _, _, _⟩) (v := ?_) rfl (by kernel_rfl) (by kernel_rfl) (by kernel_rfl) (fun _ _ _ h => h) (Or.inl ⟨by rfl, ?_⟩) (by assumption) ?_
        rotate_left 1
        · intro W' hSw
          obtain ⟨hS1, hS2, hS3, hS4⟩ := hSw
          go_simp
          try with_reducible rfl
        try simp only [Act.put, List.setIfInBounds_toArray, List.set_cons_zero, List.set_cons_succ]
        refine wpAnyH_take (i := 13) (oi := ⟨_, _, _, _, _, _⟩) (v := ?_) rfl (by kernel_rfl) (by kernel_rfl) (by kernel_rfl) (fun _ _ _ h => h) (Or.inl ⟨by rfl, ?_⟩) (by assumption) ?_
        rotate_left 1
        · intro W' hSw
          obtain ⟨hS1, hS2, hS3, hS4⟩ := hSw
          go_simp
          try with_reducible rfl
        try simp only [Act.put, List.setIfInBounds_toArray, List.set_cons_zero, List.set_cons_succ]
        refine wpAnyH_take (i := 14) (oi := ⟨_, _, _, _, _, _⟩) (v := ?_) rfl (by kernel_rfl) (by kernel_rfl) (by kernel_rfl) (fun _ _ _ h => h) (Or.inl ⟨by rfl, ?_⟩) (by assumption) ?_
        rotate_left 1
        · intro W' hSw
          obtain ⟨hS1, hS2, hS3, hS4⟩ := hSw
          go_simp
          try with_reducible rfl
        try simp only [Act.put, List.setIfInBounds_toArray, List.set_cons_zero, List.set_cons_succ]
        refine wpAnyH_take (i := 15) (oi := ⟨_, _, _, _, _, _⟩) (v := ?_) rfl (by kernel_rfl) (by kernel_rfl) (by kernel_rfl) (fun _ _ _ h => h) (Or.inl ⟨by rfl, ?_⟩) (by assumption) ?_
        rotate_left 1
        · intro W' hSw
          obtain ⟨hS1, hS2, hS3, hS4⟩ := hSw
          go_simp
          try with_reducible rfl
        try simp only [Act.put, List.setIfInBounds_toArray, List.set_cons_zero, List.set_cons_succ]
        refine wpAnyH_ready (rs := [16]) (by kernel_rfl) (by simp) ?_
        refine AllReadyH.cons (o := ⟨_, _, _, _, _, _⟩) rfl (fun K hK => ?_) AllReadyH.nil
        go_simp
        refine (same_any (V3.drewN (1 + n4)) _ _ a2 t.a l2 t.len c2 t.cap y1 y1 (show BytesAt _ (V3.drewN (1 + n4)) _ _ _ _ from HXb.out) (show BytesAt _ (V3.drewN (1 + n4)) _ _ _ _ from HTX.out)).mono ?_
        rintro e' W5 ⟨rfl, n5, rfl⟩
        rw [decide_eq_true rfl]
        dsimp only
        refine hK.out _ _ ?_ (fun hHeld => ?_)
        · exact hHeld
        clear hK K
        try simp only [Act.put, List.setIfInBounds_toArray, List.set_cons_zero, List.set_cons_succ]
        refine wpAnyH_take (i := 17) (oi := ⟨_, _, _, _, _, _⟩) (v := ?_) rfl (by kernel_rfl) (by kernel_rfl) (by kernel_rfl) (fun _ _ _ h => h) (Or.inl ⟨by rfl, ?_⟩) (by assumption) ?_
        rotate_left 1
        · intro W' hSw
          obtain ⟨hS1, hS2, hS3, hS4⟩ := hSw
          go_simp
          try with_reducible rfl
        try simp only [Act.put, List.setIfInBounds_toArray, List.set_cons_zero, List.set_cons_succ]
        refine wpAnyH_take (i := 18) (oi := ⟨_, _, _, _, _, _⟩) (v := ?_) rfl (by kernel_rfl) (by kernel_rfl) (by kernel_rfl) (fun _ _ _ h => h) (Or.inl ⟨by rfl, ?_⟩) (by assumption) ?_
        rotate_left 1
        · intro W' hSw
          obtain ⟨hS1, hS2, hS3, hS4⟩ := hSw
          go_simp
          try with_reducible rfl
        try simp only [Act.put, List.setIfInBounds_toArray, List.set_cons_zero, List.set_cons_succ]
        refine wpAnyH_take (i := 19) (oi := ⟨_, _, _, _, _, _⟩) (v := ?_) rfl (by kernel_rfl) (by kernel_rfl) (by kernel_rfl) (fun _ _ _ h => h) (Or.inl ⟨by rfl, ?_⟩) (by assumption) ?_
        rotate_left 1
        · intro W' hSw
          obtain ⟨hS1, hS2, hS3, hS4⟩ := hSw
          go_simp
          try with_reducible rfl
        try simp only [Act.put, List.setIfInBounds_toArray, List.set_cons_zero, List.set_cons_succ]
        refine wpAnyH_take (i := 20) (oi := ⟨_, _, _, _, _, _⟩) (v := ?_) rfl (by kernel_rfl) (by kernel_rfl) (by kernel_rfl) (fun _ _ _ h => h) (Or.inl ⟨by rfl, ?_⟩) (by assumption) ?_
        rotate_left 1
        · intro W' hSw
          obtain ⟨hS1, hS2, hS3, hS4⟩ := hSw
          go_simp
          try with_reducible rfl
        try simp only [Act.put, List.setIfInBounds_toArray, List.set_cons_zero, List.set_cons_succ]
        refine wpAnyH_take (i := 21) (oi := ⟨_, _, _, _, _, _⟩) (v := ?_) rfl (by kernel_rfl) (by kernel_rfl) (by kernel_rfl) (fun _ _ _ h => h) (Or.inl ⟨by rfl, ?_⟩) (by assumption) ?_
        rotate_left 1
        · intro W' hSw
          obtain ⟨hS1, hS2, hS3, hS4⟩ := hSw
          go_simp
          try with_reducible rfl
        try simp only [Act.put, List.setIfInBounds_toArray, List.set_cons_zero, List.set_cons_succ]
        refine wpAnyH_take (i := 22) (oi := ⟨_, _, _, _, _, _⟩) (v := ?_) rfl (by kernel_rfl) (by kernel_rfl) (by kernel_rfl) (fun _ _ _ h => h) (Or.inl ⟨by rfl, ?_⟩) (by assumption) ?_
        rotate_left 1
        · intro W' hSw
          obtain ⟨hS1, hS2, hS3, hS4⟩ := hSw
          go_simp
          try with_reducible rfl
        try simp only [Act.put, List.setIfInBounds_toArray, List.set_cons_zero, List.set_cons_succ]
        refine wpAnyH_take (i := 23) (oi := ⟨_, _, _, _, _, _⟩) (v := ?_) rfl (by kernel_rfl) (by kernel_rfl) (by kernel_rfl) (fun _ _ _ h => h) (Or.inl ⟨by rfl, ?_⟩) (by assumption) ?_
        rotate_left 1
        · intro W' hSw
          obtain ⟨hS1, hS2, hS3, hS4⟩ := hSw
          go_simp
          try with_reducible rfl
        try simp only [Act.put, List.setIfInBounds_toArray, List.set_cons_zero, List.set_cons_succ]
        refine wpAnyH_take (i := 24) (oi := ⟨_, _, _, _, _, _⟩) (v := ?_) rfl (by kernel_rfl) (by kernel_rfl) (by kernel_rfl) (fun _ _ _ h => h) (Or.inl ⟨by rfl, ?_⟩) (by assumption) ?_
        rotate_left 1
        · intro W' hSw
          obtain ⟨hS1, hS2, hS3, hS4⟩ := hSw
          go_simp
          try with_reducible rfl
        try simp only [Act.put, List.setIfInBounds_toArray, List.set_cons_zero, List.set_cons_succ]
        refine wpAnyH_take (i := 25) (oi := ⟨_, _, _, _, _, _⟩) (v := ?_) rfl (by kernel_rfl) (by kernel_rfl) (by kernel_rfl) (fun _ _ _ h => h) (Or.inl ⟨by rfl, ?_⟩) (by assumption) ?_
        rotate_left 1
        · intro W' hSw
          obtain ⟨hS1, hS2, hS3, hS4⟩ := hSw
          go_simp
          try with_reducible rfl
        try simp only [Act.put, List.setIfInBounds_toArray, List.set_cons_zero, List.set_cons_succ]
        refine wpAnyH_take (i := 26) (oi := ⟨_, _, _, _, _, _⟩) (v := ?_) rfl (by kernel_rfl) (by kernel_rfl) (by kernel_rfl) (fun _ _ _ h => h) (Or.inl ⟨by rfl, ?_⟩) (by assumption) ?_
        rotate_left 1
        · intro W' hSw
          obtain ⟨hS1, hS2, hS3, hS4⟩ := hSw
          go_simp
          try with_reducible rfl
        try simp only [Act.put, List.setIfInBounds_toArray, List.set_cons_zero, List.set_cons_succ]
        refine wpAnyH_take (i := 27) (oi := ⟨_, _, _, _, _, _⟩) (v := ?_) rfl (by kernel_rfl) (by kernel_rfl) (by kernel_rfl) (fun _ _ _ h => h) (Or.inl ⟨by rfl, ?_⟩) (by assumption) ?_
        rotate_left 1
        · intro W' hSw
          obtain ⟨hS1, hS2, hS3, hS4⟩ := hSw
          go_simp
          try with_reducible rfl
        try simp only [Act.put, List.setIfInBounds_toArray, List.set_cons_zero, List.set_cons_succ]
        refine wpAnyH_take (i := 28) (oi := ⟨_, _, _, _, _, _⟩) (v := ?_) rfl (by kernel_rfl) (by kernel_rfl) (by kernel_rfl) (fun _ _ _ h => h) (Or.inl ⟨by rfl, ?_⟩) (by assumption) ?_
        rotate_left 1
        · intro W' hSw
          obtain ⟨hS1, hS2, hS3, hS4⟩ := hSw
          go_simp
          try with_reducible rfl
        try simp only [Act.put, List.setIfInBounds_toArray, List.set_cons_zero, List.set_cons_succ]
        refine wpAnyH_done (by kernel_rfl) ?_ _
        go_wp2_with fail
        go_ret
        exact ⟨rfl, by rw [← hw]; first | exact (HP2.out.grow (extends_drewN (extends_drewN (ext_Ext (Ext.refl _)) (1 + n4)) n5)).ext | exact (HP2.out.grow (extends_drewN (ext_Ext (Ext.refl _)) _)).ext⟩
end Go.Proofs.Qxb6500785a
