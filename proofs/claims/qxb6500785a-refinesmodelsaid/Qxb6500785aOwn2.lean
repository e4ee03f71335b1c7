import Derived.Test.Qxb6500785aStepA
import Derived.Test.Qxb6500785aKnown
import Derived.Deep.RegionHeld
import Derived.Deep.CutRange
import Derived.Laws.ResultCell
import Derived.Laws.Rows
set_option linter.unusedSimpArgs false
set_option linter.unusedVariables false
namespace Go.Proofs.Qxb6500785a
open Go.RowKit Go.Blk
attribute [local go_sem ↓] execOp_load execOp_store execOp_alloc
attribute [local go_sem] Try.ld24 Try.st24 Try.ld5 Try.st5 Try.ld3 Try.st3 Try.ld27 Try.st27 Try.ld32 Try.st32 Try.ld33 Try.st33 Try.ld4 Try.st4 Try.ld41 Try.st41 Try.ld40 Try.st40 Try.ld42 Try.st42 Try.ld47 Try.st47 Try.ld48 Try.st48 Try.ld57 Try.st57 Try.ld58 Try.st58 Try.ld2 Try.st2 Try.ld9 Try.st9 Try.ld12 Try.st12 Try.ld21 Try.st21 Try.ld22 Try.st22 Try.ld46 Try.st46 Try.ld83 Try.st83 Try.ld95 Try.st95 Try.ld99 Try.st99 Try.ld106 Try.st106 Try.ld108 Try.st108 Try.ld134 Try.st134 Try.ld25 Try.st25 Try.ld26 Try.st26 Try.ld34 Try.st34 Try.ld31 Try.st31 Try.ld30 Try.st30 Try.ld74 Try.st74 Try.ld96 Try.st96 Try.ld101 Try.st101 Try.ld115 Try.st115 Try.ld116 Try.st116 Try.ld120 Try.st120 Try.ld121 Try.st121 Try.ld122 Try.st122 Try.ld29 Try.st29 Try.ld36 Try.st36 Try.ld38 Try.st38 Try.ld44 Try.st44 Try.ld50 Try.st50 Try.ld60 Try.st60 Try.ld110 Try.st110 Try.al25 Try.al26 Try.al34 Try.al31 Try.al30 Try.al74 Try.al96 Try.al101 Try.al115 Try.al116 Try.al120 Try.al121 Try.al122 Try.al29 Try.al36 Try.al38 Try.al44 Try.al50 Try.al60 Try.al110
attribute [local go_sem] Hasher.length_enc Hasher.ok_enc Hasher.all_get Hasher.all_set Hasher.state_get Hasher.state_set Hasher.block_get Hasher.block_set Hasher.fill_get Hasher.fill_set Hasher.length_get Hasher.length_set GLog.length_enc GLog.ok_enc GLog.all_get GLog.all_set GLog.entries_get GLog.entries_set GLog.shelves_get GLog.shelves_set GLog.first_get GLog.first_set GLog.second_get GLog.second_set GLog.found_get GLog.found_set Player.length_enc Player.ok_enc Player.all_get Player.all_set Player.hand_get Player.hand_set Player.aside_get Player.aside_set Player.prev_get Player.prev_set Player.last_get Player.last_set Player.log_get Player.log_set Player.hand_state_get Player.hand_state_set Player.hand_block_get Player.hand_block_set Player.hand_fill_get Player.hand_fill_set Player.hand_length_get Player.hand_length_set Player.aside_state_get Player.aside_state_set Player.aside_block_get Player.aside_block_set Player.aside_fill_get Player.aside_fill_set Player.aside_length_get Player.aside_length_set Player.log_entries_get Player.log_entries_set Player.log_shelves_get Player.log_shelves_set Player.log_first_get Player.log_first_set Player.log_second_get Player.log_second_set Player.log_found_get Player.log_found_set GOp.length_enc GOp.ok_enc GOp.all_get GOp.all_set GOp.kind_get GOp.kind_set GOp.data_get GOp.data_set GOp.cut_get GOp.cut_set GOp.n_get GOp.n_set GOp.b_get GOp.b_set GOp.v_get GOp.v_set GOp.dom_get GOp.dom_set GOp.sum_get GOp.sum_set Answer.length_enc Answer.ok_enc Answer.all_get Answer.all_set Answer.code_get Answer.code_set Answer.sum_get Answer.sum_set Answer.len_get Answer.len_set Answer.mark_get Answer.mark_set Answer.noted_get Answer.noted_set Answer.collided_get Answer.collided_set GState.length_enc GState.ok_enc GState.all_get GState.all_set GState.hand_get GState.hand_set GState.aside_get GState.aside_set GState.prev_get GState.prev_set GState.last_get GState.last_set GState.inputs_get GState.inputs_set GState.sums_get GState.sums_set GState.collided_get GState.collided_set GState.older_get GState.older_set GState.younger_get GState.younger_set Noted.length_enc Noted.ok_enc Noted.all_get Noted.all_set Noted.input_get Noted.input_set Noted.sum_get Noted.sum_set
attribute [local go_sem] size_put size_ext blk_put free_put blk_alloc free_alloc blk_drew free_drew blk_ext free_ext lookOr_some putOr_some segAt_some cellAt_some storeIn_some put_put put_alloc_new length_arr ok_arr_u8 ok_arr_u32 ok_arr_u64 ok_arr_i64 ok_arr_sl cellsV_agg cellsV_int cellsV_bool cellsV_string cellsV_pointer cellsV_slice cellsV_sl ok_int ok_bool ok_string ok_pointer ok_slice ok_sl toList_arr seg_arr set_arr nth_splice nth_splice0 seg_splice seg_splice0 splice_splice splice_splice0 length_splice_if
attribute [local go_sem] w32_and w32_or w32_xor w32_add w32_or8 w32_not w8_and w8_or w8_xor w32_shr2 w32_shl2 w32_shr3 w32_shl3 w32_shr6 w32_shl6 w32_shr7 w32_shl7 w32_shr8 w32_shl8 w32_shr10 w32_shl10 w32_shr11 w32_shl11 w32_shr13 w32_shl13 w32_shr14 w32_shl14 w32_shr15 w32_shl15 w32_shr16 w32_shl16 w32_shr17 w32_shl17 w32_shr18 w32_shl18 w32_shr19 w32_shl19 w32_shr21 w32_shl21 w32_shr22 w32_shl22 w32_shr24 w32_shl24 w32_shr25 w32_shl25 w32_shr26 w32_shl26 w32_shr30 w32_shl30 w8_shl24 w8_shl16 w8_shl8 v32_add v32_byte w32_byte0 v8_shl24 v8_shl16 v8_shl8 v32_shr2 v32_shl2 v32_shr3 v32_shl3 v32_shr6 v32_shl6 v32_shr7 v32_shl7 v32_shr8 v32_shl8 v32_shr10 v32_shl10 v32_shr11 v32_shl11 v32_shr13 v32_shl13 v32_shr14 v32_shl14 v32_shr15 v32_shl15 v32_shr16 v32_shl16 v32_shr17 v32_shl17 v32_shr18 v32_shl18 v32_shr19 v32_shl19 v32_shr21 v32_shl21 v32_shr22 v32_shl22 v32_shr24 v32_shl24 v32_shr25 v32_shl25 v32_shr26 v32_shl26 v32_shr30 v32_shl30
attribute [local go_sem ↓] execOp_build
attribute [local go_sem] run_build_kv run_build_iv nth_arr_u32 put_arr_u32 nth_arr_u8 put_arr_u8 v32_of8 blk_drewN free_drewN put_drewN put_drew blk_raw free_raw
attribute [local go_sem ↓] execOp_slice execOp_copy
attribute [local go_sem] Try.sl40lo Try.sl40hi Try.sl26lo Try.sl26hi Try.sl26 Try.sl96lo Try.sl96hi Try.sl96 Try.sl31lo Try.sl31 Try.sl120 Try.sl121 Try.sl121lo Try.sl121hi Try.cp40 copyOr_some copyIn_some srcB_drew srcB_drewN srcB_raw length_bv one_bv
attribute [local go_sem] Hasher.length_zero
attribute [local go_sem] Try.cpv copyOrV_some
attribute [local go_sem ↓] execOp_index execOp_convert execOp_box execOp_convert9
attribute [local go_sem] index_hex box_run conv_bytes eq31
attribute [local go_sem] build31
attribute [local go_sem ↓] execOp_make
/-- Where an appended row lies: where it lay, or in a new block. -/
theorem append_block_gen {P : Program} (w : World) (base : Nat) (t ty e : TypeId) (i : TypeInfo) (z : Value) (size bytes : Nat) (ht : P.underlying t = some (.slice e)) (hi : P.info? e = some i) (hz : i.zero = some z)
    (hsize : i.size = size) (hby : i.bytes = bytes) (hzs : z.cells.size = size) (hsz : 0 < size)
    (v : Value) (n : Nat) (xs : List Value) (hown : w.ownsRow base e size v n xs)
    (a : Addr) (m c : Nat) (news : List Value) (hl : news.length = m * size) (hnews : ∀ j u, news[j]? = some u → w.cell? (a.add j) = some u) (h1 : ∀ u ∈ news, u.oneCell' = true)
    (h63 : n + m ≤ maxLen) (hbytes : (n + m) * bytes ≤ 140737488355328) (v' : Value) (w' : World) (hrun : (Builtin.append_ #[t, t] ty #[v, .slice (some a) m c]).run P w = .ok v' w') :
    v'.ownBlock = v.ownBlock ∨ v'.ownBlock = some w.heap.size := by
  subst hsize
  subst hby
  have hsmall : n + m ≤ 9223372036854775807 := by simp only [maxLen] at h63; omega
  rcases hown.2 with ⟨rfl, rfl⟩ | ⟨g, cap, cur, rfl, hbg, hg, hnc, hcm, hcs, htake⟩
  · by_cases hm : m = 0
    · subst hm
      have hn : news = [] := List.eq_nil_of_length_eq_zero (by simpa using hl)
      subst hn
      have hr : (Builtin.append_ #[t, t] ty #[.slice none 0 0, .slice (some a) 0 c]).run P w = .ok (.slice none 0 0) w := by
        simp [Builtin.append_, run_underlying ht, sizeOf, typeInfo, hi, Builtin.lenOf, Builtin.firstCells, loadCells, loadCellsFrom]
      rw [hr] at hrun
      injection hrun with h2 h3
      subst h2
      exact .inl rfl
    · have hr := run_append_nil (P := P) w t ty e i z ht hi hz a m c news hl hnews (by omega) (by omega) (by have hb := hbytes; simp only [Nat.zero_add] at hb; omega)
      rw [hr] at hrun
      injection hrun with h2 h3
      subst h2
      exact .inr rfl
  · by_cases hroom : n + m ≤ cap
    · have hfit : n * i.size + news.length ≤ cur.size := by rw [hl, hcs, ← Nat.add_mul]; exact Nat.mul_le_mul_right _ hroom
      have hr := run_append_room (P := P) w t ty e i ht hi g n cap cur hg a m c news hl hnews h1 hroom hfit
      rw [hr] at hrun
      injection hrun with h2 h3
      subst h2
      exact .inl rfl
    · have holds : ∀ j u, xs[j]? = some u → w.cell? ((⟨g, 0, none⟩ : Addr).add j) = some u := hown.cells (g := g) rfl
      have hr := run_append_grow (P := P) w t ty e i z ht hi hz ⟨g, 0, none⟩ n cap xs hown.1 holds a m c news hl hnews (by omega) (by omega) (growslice_fits (by omega) hbytes)
      rw [hr] at hrun
      injection hrun with h2 h3
      subst h2
      exact .inr rfl
theorem append_own2 (base : Nat) (w : World) (ty : TypeId) (v : Value) (xs ys : List UInt8) (sp : Option Addr) (c : Nat) (h : OwnB base w v xs) (hs : srcB w sp ys.length = some (bv ys)) (hb : base ≤ w.heap.size) (hl : xs.length + ys.length ≤ 70368744177664) :
    ∃ v' w', (Builtin.append_ #[40, 40] ty #[v, .slice sp ys.length c]).run Try.prog w = .ok v' w' ∧ OwnB base w' v' (xs ++ ys) ∧ w.grownBy w' v.ownBlock ∧ (v'.ownBlock = v.ownBlock ∨ v'.ownBlock = some w.heap.size) := by
  obtain ⟨v', w', hr, h1, h2⟩ := append_own base w ty v xs ys sp c h hs hb hl
  refine ⟨v', w', hr, h1, h2, ?_⟩
  obtain ⟨i, hi, hz, hsz, hby⟩ : ∃ i, Try.prog.info? 5 = some i ∧ i.zero = some (.int .u8 0) ∧ i.size = 1 ∧ i.bytes = 1 := by
    have hq : (Try.prog.info? 5).map (fun i => (i.zero, i.size, i.bytes)) = some (some (.int .u8 0), 1, 1) := by kernel_rfl
    cases hx : Try.prog.info? 5 with
    | none => rw [hx] at hq; simp at hq
    | some i =>
      rw [hx] at hq
      simp only [Option.map_some, Option.some.injEq, Prod.mk.injEq] at hq
      exact ⟨i, rfl, hq.1, hq.2.1, hq.2.2⟩
  by_cases h0 : ys = []
  · subst h0
    have hl0 : ∀ (x : Addr), (loadCells x 0).run Try.prog w = .ok #[] w := fun x => by simpa using run_loadCells_list (P := Try.prog) w x [] (by simp)
    have hr2 : (Builtin.append_ #[40, 40] ty #[v, .slice sp ([] : List UInt8).length c]).run Try.prog w = .ok v w := by
      obtain ⟨_, h | h⟩ := h
      · rw [h.1]
        cases sp <;> simp [Builtin.append_, run_underlying Try.underlying40, sizeOf, typeInfo, hi, hsz, Builtin.lenOf, Builtin.firstCells, hl0, storeCells]
      · obtain ⟨g, cap, cur, rfl, h1, h2, h3, h4, h5, h6⟩ := h
        cases sp <;> simp [Builtin.append_, run_underlying Try.underlying40, sizeOf, typeInfo, hi, hsz, Builtin.lenOf, Builtin.firstCells, h3, hl0, storeCells]
    rw [hr2] at hr
    injection hr with e1 e2
    subst e1
    exact .inl rfl
  · have hpos : 0 < ys.length := List.length_pos_iff.2 h0
    obtain ⟨b, o, S, rfl, hS, hfit, hseg⟩ : ∃ b o S, sp = some ⟨b, o, none⟩ ∧ blk w b = some S ∧ o + ys.length ≤ S.length ∧ seg S o ys.length = bv ys := by
      unfold srcB at hs
      rw [if_neg (by omega)] at hs
      split at hs
      · rename_i b o
        split at hs
        · rename_i S hS
          split at hs
          · rename_i hf
            exact ⟨b, o, S, rfl, hS, hf, by simpa using hs⟩
          · simp at hs
        · simp at hs
      · simp at hs
    exact append_block_gen (P := Try.prog) w base 40 ty 5 i (.int .u8 0) 1 1 Try.underlying40 hi hz hsz hby rfl (by decide) v xs.length (bv xs) h ⟨b, o, none⟩ ys.length c (bv ys) (by rw [length_bv]; omega)
      (by
        intro j u hu
        rw [add_addr, cell_blk hS]
        rw [← hseg] at hu
        unfold seg at hu
        rw [List.getElem?_take] at hu
        split at hu
        · rw [List.getElem?_drop] at hu; exact hu
        · simp at hu)
      (by have := one_bv ys; simpa using this) (by simp only [maxLen]; omega) (by omega) v' w' hr
theorem wpList_append2 {w : World} {ops : Array Oper} {rest : List Oper} {o : Oper} {a : Act} {Q : Exit → Act → World → Prop} (hgd : o.guard = none) (s x : Operand)
    (ho : o.op = .call { callee := .builtin .append, args := #[s, x], argTypes := #[40, 40] }) (base : Nat) (v : Value) (xs ys : List UInt8) (sp : Option Addr) (n c : Nat) (hs : a.eval s = v) (hx : a.eval x = .slice sp n c) (hn : n = ys.length)
    (h : OwnB base w v xs) (hsrc : srcB w sp ys.length = some (bv ys)) (hb : base ≤ w.heap.size) (hl : xs.length + ys.length ≤ 70368744177664)
    (hK : ∀ v' w', OwnB base w' v' (xs ++ ys) → w.grownBy w' v.ownBlock → (v'.ownBlock = v.ownBlock ∨ v'.ownBlock = some w.heap.size) → wpList Try.prog ops Q rest (a.put o.dst v') w') : wpList Try.prog ops Q (o :: rest) a w := by
  refine wpList_plain hgd fun K hK' => ?_
  obtain ⟨v', w', hrun, h1, h2, h3⟩ := append_own2 base w o.type v xs ys sp c h hsrc hb hl
  subst hn
  unfold Oper.wp
  simp [execOp, ho, resolve, invoke, builtin, hs, hx, hrun, Result.andThen]
  exact hK' _ _ (hK v' w' h1 h2 h3)
def fieldOp (t : TypeId) (x : Value) (f : Nat) : Sem Next := do pure (.value (← Instr.field t x f))
theorem execOp_field (a : Act) (dst : Option Tmp) (t : TypeId) (x : Operand) (f : Nat) (ty : TypeId) (pos : String) (after : Array Edge) (guard : Option (Nat × Bool)) :
    execOp a.eval { dst, op := .field t x f, type := ty, pos, after, guard } = fieldOp t (a.eval x) f := rfl
theorem field50 (w : World) (x : Answer) : (fieldOp 50 (.agg x.enc.toArray) 0).run Try.prog w = .ok (.value (.int .i64 x.code)) w := by
  have hx : x.enc.toArray[0]? = some (.int .i64 x.code) := by
    have := Answer.code_get x
    unfold nth at this
    rw [List.getElem?_toArray]
    exact this
  have hp := run_part_plain (P := Try.prog) w (e := 47) (by kernel_rfl) hx
  have hf : (Instr.field 50 (.agg x.enc.toArray) 0).run Try.prog w = .ok (.int .i64 x.code) w := by
    unfold Instr.field
    simp only [Sem.run_bind, run_underlying Try.underlying50, Result.andThen_ok]
    exact hp
  unfold fieldOp
  rw [Sem.run_bind, hf]
  rfl
theorem OwnB.keep {base : Nat} {w w' : World} {v : Value} {xs : List UInt8} (h : OwnB base w v xs) (hw : ∀ k, v.ownBlock = some k → w'.heap[k]? = w.heap[k]?) : OwnB base w' v xs := by
  obtain ⟨h1, h2 | ⟨g, cap, cur, e1, e2, e3, e4⟩⟩ := h
  · exact ⟨h1, .inl h2⟩
  · exact ⟨h1, .inr ⟨g, cap, cur, e1, e2, by rw [hw g (by rw [e1]; rfl)]; exact e3, e4⟩⟩
theorem OwnB.lt {base : Nat} {w : World} {v : Value} {xs : List UInt8} (h : OwnB base w v xs) (k : Nat) (hk : v.ownBlock = some k) : k < w.heap.size := by
  obtain ⟨h1, h2 | ⟨g, cap, cur, e1, e2, e3, e4⟩⟩ := h
  · rw [h2.1] at hk; simp [Value.ownBlock] at hk
  · rw [e1] at hk
    simp [Value.ownBlock] at hk
    subst hk
    exact (Array.getElem?_eq_some_iff.1 e3).1
theorem heap_out {w w' : World} {b k : Nat} {X : List Value} (h : Out w w' b X) (hk : k < w.heap.size) (hn : k ≠ b) : w'.heap[k]? = w.heap[k]? := by
  obtain ⟨G, n, rfl⟩ := h
  rw [heap_ext, if_pos (by rw [size_put]; exact hk), heap_put, if_neg hn]
/-- The law's state: the player p, the two messages' own copies. -/
structure SoAt (w : World) (bp : Nat) (v4 v5 : Value) (hs sd mh ma : List UInt8) (p : Player) (W : World) : Prop where
  blk : Blk.blk W bp = some p.enc
  free : Blk.free W bp = true
  rh : Rep p.hand mh
  ra : Rep p.aside ma
  own4 : OwnB (bp + 1) W v4 hs
  own5 : OwnB (bp + 1) W v5 sd
  apart : ∀ k, v4.ownBlock = some k → v5.ownBlock ≠ some k
  base : w.heap.size ≤ bp
  ext : w.Extends W
theorem SoAt.lt {w : World} {bp : Nat} {v4 v5 : Value} {hs sd mh ma : List UInt8} {p : Player} {W : World} (h : SoAt w bp v4 v5 hs sd mh ma p W) : bp < W.heap.size := blk_lt h.blk
theorem SoAt.grow {w : World} {bp : Nat} {v4 v5 : Value} {hs sd mh ma : List UInt8} {p : Player} {W W' : World} (h : SoAt w bp v4 v5 hs sd mh ma p W) (he : W.Extends W') : SoAt w bp v4 v5 hs sd mh ma p W' :=
  ⟨(he.blk h.lt).trans h.blk, (free_of_heap (he.block _ h.lt)).trans h.free, h.rh, h.ra, h.own4.mono he.block, h.own5.mono he.block, h.apart, h.base, h.ext.trans he⟩
theorem SoAt.step {w : World} {bp : Nat} {v4 v5 : Value} {hs sd mh ma mh' ma' : List UInt8} {p p' : Player} {W W' : World} (h : SoAt w bp v4 v5 hs sd mh ma p W) (ho : Out W W' bp p'.enc) (r1 : Rep p'.hand mh') (r2 : Rep p'.aside ma') : SoAt w bp v4 v5 hs sd mh' ma' p' W' := by
  have hne : ∀ {v : Value} {xs : List UInt8}, OwnB (bp + 1) W v xs → OwnB (bp + 1) W' v xs := fun hv => hv.keep fun k hk => heap_out ho (hv.lt k hk) (by have := hv.block k hk; omega)
  have hb := h.base
  refine ⟨ho.blk_at h.blk, (ho.free h.lt).trans h.free, r1, r2, hne h.own4, hne h.own5, h.apart, h.base, ?_⟩
  have hk : ∀ i, i < w.heap.size → W'.heap[i]? = w.heap[i]? := fun i hi => (heap_out ho (Nat.lt_of_lt_of_le hi h.ext.size) (by omega)).trans (h.ext.block i hi)
  obtain ⟨G, n, e⟩ := ho
  refine ⟨by rw [e]; exact h.ext.os, by rw [e]; exact h.ext.tape, by rw [e]; exact h.ext.output, ?_, fun a ha => World.cell?_of_block (hk _ ha), fun a ha => World.frozen?_of_block (hk _ ha), hk⟩
  rw [e, size_ext, size_put]
  have := h.ext.size
  omega
theorem SoAt.app {w : World} {bp : Nat} {v4 v5 v : Value} {hs sd mh ma xs : List UInt8} {p : Player} {W W' : World} (h : SoAt w bp v4 v5 hs sd mh ma p W) (ho : OwnB (bp + 1) W' v xs) (hg : W.grownBy W' v4.ownBlock) (hb : v.ownBlock = v4.ownBlock ∨ v.ownBlock = some W.heap.size) : SoAt w bp v v5 xs sd mh ma p W' := by
  have hbase := h.base
  have hne : some bp ≠ v4.ownBlock := fun e => by have := h.own4.block bp e.symm; omega
  have hk := hg.block bp h.lt hne
  refine ⟨(blk_of_heap hk).trans h.blk, (free_of_heap hk).trans h.free, h.rh, h.ra, ho, h.own5.keep fun k hk5 => hg.block k (h.own5.lt k hk5) fun e => h.apart k e.symm hk5, ?_, h.base, h.own4.grow (by omega) h.ext hg⟩
  intro k hk4 hk5
  rcases hb with e | e
  · rw [e] at hk4; exact h.apart k hk4 hk5
  · rw [e] at hk4
    have := h.own5.lt k hk5
    have := Option.some.inj hk4
    omega
theorem SoAt.nil {w : World} {bp : Nat} {v4 v5 : Value} {hs sd mh ma : List UInt8} {p : Player} {W : World} (h : SoAt w bp v4 v5 hs sd mh ma p W) : SoAt w bp (.slice none 0 0) v5 [] sd mh ma p W :=
  ⟨h.blk, h.free, h.rh, h.ra, OwnB.nil _ _, h.own5, fun k hk => by simp [Value.ownBlock] at hk, h.base, h.ext⟩
theorem SoAt.swap {w : World} {bp : Nat} {v4 v5 : Value} {hs sd mh ma : List UInt8} {p : Player} {W : World} (h : SoAt w bp v4 v5 hs sd mh ma p W) : SoAt w bp v5 v4 sd hs mh ma p W :=
  ⟨h.blk, h.free, h.rh, h.ra, h.own5, h.own4, fun k hk hk' => h.apart k hk' hk, h.base, h.ext⟩
end Go.Proofs.Qxb6500785a
