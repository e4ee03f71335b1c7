import Derived.Test.Qxb6500785aStepB3
import Derived.Test.Qxb6500785aStepB3

import Derived.Test.Qxb6500785aStream
import Derived.Test.Qxb6500785aApart
import Derived.Test.Qxb6500785aKnown
import Derived.Deep.RegionHeld
import Derived.Deep.CutRange
import Derived.Laws.ResultCell
import Derived.Laws.Rows
set_option linter.unusedSimpArgs false
set_option linter.unusedVariables false
namespace Go.Proofs.Qxb6500785a
open Go.RowKit Go.Blk
attribute [local go_sem ↓] execOp_load execOp_store execOp_alloc
attribute [local go_sem] Try.ld24 Try.st24 Try.ld5 Try.st5 Try.ld3 Try.st3 Try.ld27 Try.st27 Try.ld32 Try.st32 Try.ld33 Try.st33 Try.ld4 Try.st4 Try.ld41 Try.st41 Try.ld40 Try.st40 Try.ld42 Try.st42 Try.ld47 Try.st47 Try.ld48 Try.st48 Try.ld57 Try.st57 Try.ld58 Try.st58 Try.ld2 Try.st2 Try.ld9 Try.st9 Try.ld12 Try.st12 Try.ld21 Try.st21 Try.ld22 Try.st22 Try.ld46 Try.st46 Try.ld83 Try.st83 Try.ld95 Try.st95 Try.ld99 Try.st99 Try.ld106 Try.st106 Try.ld108 Try.st108 Try.ld134 Try.st134 Try.ld25 Try.st25 Try.ld26 Try.st26 Try.ld34 Try.st34 Try.ld31 Try.st31 Try.ld30 Try.st30 Try.ld74 Try.st74 Try.ld96 Try.st96 Try.ld101 Try.st101 Try.ld115 Try.st115 Try.ld116 Try.st116 Try.ld120 Try.st120 Try.ld121 Try.st121 Try.ld122 Try.st122 Try.ld29 Try.st29 Try.ld36 Try.st36 Try.ld38 Try.st38 Try.ld44 Try.st44 Try.ld50 Try.st50 Try.ld60 Try.st60 Try.ld110 Try.st110 Try.al25 Try.al26 Try.al34 Try.al31 Try.al30 Try.al74 Try.al96 Try.al101 Try.al115 Try.al116 Try.al120 Try.al121 Try.al122 Try.al29 Try.al36 Try.al38 Try.al44 Try.al50 Try.al60 Try.al110
attribute [local go_sem] Hasher.length_enc Hasher.ok_enc Hasher.all_get Hasher.all_set Hasher.state_get Hasher.state_set Hasher.block_get Hasher.block_set Hasher.fill_get Hasher.fill_set Hasher.length_get Hasher.length_set GLog.length_enc GLog.ok_enc GLog.all_get GLog.all_set GLog.entries_get GLog.entries_set GLog.shelves_get GLog.shelves_set GLog.first_get GLog.first_set GLog.second_get GLog.second_set GLog.found_get GLog.found_set Player.length_enc Player.ok_enc Player.all_get Player.all_set Player.hand_get Player.hand_set Player.aside_get Player.aside_set Player.prev_get Player.prev_set Player.last_get Player.last_set Player.log_get Player.log_set Player.hand_state_get Player.hand_state_set Player.hand_block_get Player.hand_block_set Player.hand_fill_get Player.hand_fill_set Player.hand_length_get Player.hand_length_set Player.aside_state_get Player.aside_state_set Player.aside_block_get Player.aside_block_set Player.aside_fill_get Player.aside_fill_set Player.aside_length_get Player.aside_length_set Player.log_entries_get Player.log_entries_set Player.log_shelves_get Player.log_shelves_set Player.log_first_get Player.log_first_set Player.log_second_get Player.log_second_set Player.log_found_get Player.log_found_set GOp.length_enc GOp.ok_enc GOp.all_get GOp.all_set GOp.kind_get GOp.kind_set GOp.data_get GOp.data_set GOp.cut_get GOp.cut_set GOp.n_get GOp.n_set GOp.b_get GOp.b_set GOp.v_get GOp.v_set GOp.dom_get GOp.dom_set GOp.sum_get GOp.sum_set Answer.length_enc Answer.ok_enc Answer.all_get Answer.all_set Answer.code_get Answer.code_set Answer.sum_get Answer.sum_set Answer.len_get Answer.len_set Answer.mark_get Answer.mark_set Answer.noted_get Answer.noted_set Answer.collided_get Answer.collided_set GState.length_enc GState.ok_enc GState.all_get GState.all_set GState.hand_get GState.hand_set GState.aside_get GState.aside_set GState.prev_get GState.prev_set GState.last_get GState.last_set GState.inputs_get GState.inputs_set GState.sums_get GState.sums_set GState.collided_get GState.collided_set GState.older_get GState.older_set GState.younger_get GState.younger_set Noted.length_enc Noted.ok_enc Noted.all_get Noted.all_set Noted.input_get Noted.input_set Noted.sum_get Noted.sum_set
attribute [local go_sem] size_put size_ext blk_put free_put blk_alloc free_alloc blk_drew free_drew blk_ext free_ext lookOr_some putOr_some segAt_some cellAt_some storeIn_some put_put put_alloc_new length_arr ok_arr_u8 ok_arr_u32 ok_arr_u64 ok_arr_i64 ok_arr_sl cellsV_agg cellsV_int cellsV_bool cellsV_string cellsV_pointer cellsV_slice cellsV_sl ok_int ok_bool ok_string ok_pointer ok_slice ok_sl toList_arr seg_arr set_arr nth_splice nth_splice0 seg_splice seg_splice0 splice_splice splice_splice0 length_splice_if
attribute [local go_sem] w32_and w32_or w32_xor w32_add w32_or8 w32_not w8_and w8_or w8_xor w32_shr2 w32_shl2 w32_shr3 w32_shl3 w32_shr6 w32_shl6 w32_shr7 w32_shl7 w32_shr8 w32_shl8 w32_shr10 w32_shl10 w32_shr11 w32_shl11 w32_shr13 w32_shl13 w32_shr14 w32_shl14 w32_shr15 w32_shl15 w32_shr16 w32_shl16 w32_shr17 w32_shl17 w32_shr18 w32_shl18 w32_shr19 w32_shl19 w32_shr21 w32_shl21 w32_shr22 w32_shl22 w32_shr24 w32_shl24 w32_shr25 w32_shl25 w32_shr26 w32_shl26 w32_shr30 w32_shl30 w8_shl24 w8_shl16 w8_shl8 v32_add v32_byte w32_byte0 v8_shl24 v8_shl16 v8_shl8 v32_shr2 v32_shl2 v32_shr3 v32_shl3 v32_shr6 v32_shl6 v32_shr7 v32_shl7 v32_shr8 v32_shl8 v32_shr10 v32_shl10 v32_shr11 v32_shl11 v32_shr13 v32_shl13 v32_shr14 v32_shl14 v32_shr15 v32_shl15 v32_shr16 v32_shl16 v32_shr17 v32_shl17 v32_shr18 v32_shl18 v32_shr19 v32_shl19 v32_shr21 v32_shl21 v32_shr22 v32_shl22 v32_shr24 v32_shl24 v32_shr25 v32_shl25 v32_shr26 v32_shl26 v32_shr30 v32_shl30
attribute [local go_sem ↓] execOp_build
attribute [local go_sem] run_build_kv run_build_iv nth_arr_u32 put_arr_u32 nth_arr_u8 put_arr_u8 v32_of8 blk_drewN free_drewN put_drewN put_drew blk_raw free_raw
attribute [local go_sem ↓] execOp_slice execOp_copy
attribute [local go_sem] Try.sl40lo Try.sl40hi Try.sl26lo Try.sl26hi Try.sl26 Try.sl96lo Try.sl96hi Try.sl96 Try.sl31lo Try.sl31 Try.sl120 Try.sl121 Try.sl121lo Try.sl121hi Try.cp40 copyOr_some copyIn_some srcB_drew srcB_drewN srcB_raw length_bv one_bv
attribute [local go_sem] Hasher.length_zero
attribute [local go_sem] Try.cpv copyOrV_some
attribute [local go_sem ↓] execOp_index execOp_convert execOp_box execOp_convert9
attribute [local go_sem] index_hex box_run conv_bytes eq31
attribute [local go_sem] build31
def SrcAt (w : World) (B : Nat) (X : Nat → Prop) (W : World) (s : Sl) (xs : List UInt8) : Prop := xs.length ≤ 70000 ∧ (BytesAt w.heap.size w s.a s.len s.cap xs ∨ (OwnB B W (Sl.val s) xs ∧ ∀ k, (Sl.val s).ownBlock = some k → ¬ X k))
structure InsI (w : World) (B : Nat) (X : Nat → Prop) (W : World) (v : Sl) (L : List Ent) : Prop where
  row : ∃ sl : List Sl, W.ownsRow B 40 1 (Sl.val v) sl.length (sl.map Sl.val) ∧ sl.length = L.length ∧ ∀ (j : Nat) s e, sl[j]? = some s → L[j]? = some e → SrcAt w B X W s e.1
def InsS (B : Nat) (W : World) (v : Sl) (L : List Ent) : Prop := W.ownsRow B 31 32 (Sl.val v) L.length (L.flatMap fun e => arr u8v e.2)
theorem row_ty {B : Nat} {W : World} {e : TypeId} {size : Nat} {v : Value} {n : Nat} {xs : List Value} (h : W.ownsRow B e size v n xs) (k : Nat) (hk : v.ownBlock = some k) : B ≤ k ∧ k < W.heap.size ∧ TyAt W k e := row_at h k hk
theorem TyAt.ne {W : World} {c : Nat} {t u : TypeId} (h : TyAt W c t) (hn : t ≠ u) : ¬ TyAt W c u := by
  obtain ⟨c1, f1, h⟩ := h
  rintro ⟨c2, f2, h'⟩
  rw [h] at h'
  injection h' with h'
  injection h' with _ h2 _
  exact hn h2
theorem SrcAt.keep {w : World} {B : Nat} {X : Nat → Prop} {W W' : World} {s : Sl} {xs : List UInt8} (h : SrcAt w B X W s xs) (hk : ∀ c, B ≤ c → c < W.heap.size → TyAt W c 5 → ¬ X c → W'.heap[c]? = W.heap[c]?) : SrcAt w B X W' s xs := by
  refine ⟨h.1, ?_⟩
  rcases h.2 with h | h
  · exact .inl h
  · refine .inr ⟨h.1.keep fun k q => ?_, h.2⟩
    obtain ⟨h1, h2, h3⟩ := row_ty h.1 k q
    exact hk k h1 h2 h3 (h.2 k q)
theorem SrcAt.bytes {w : World} {B : Nat} {X : Nat → Prop} {W : World} {s : Sl} {xs : List UInt8} (h : SrcAt w B X W s xs) (he : w.Extends W) : BytesAt W.heap.size W s.a s.len s.cap xs := by
  rcases h.2 with q | q
  · exact q.at_new (fun k hk => he.blk hk) he.size
  · obtain ⟨a, c, e1, e2⟩ := own_bytes q.1 (by have := h.1; omega)
    simp only [Sl.val] at e1
    injection e1 with h1 h2 h3
    rw [h1, h2, h3]
    exact e2
theorem InsI.keep {w : World} {B : Nat} {X : Nat → Prop} {W W' : World} {v : Sl} {L : List Ent} (h : InsI w B X W v L) (hk : ∀ c, B ≤ c → c < W.heap.size → (TyAt W c 40 ∨ (TyAt W c 5 ∧ ¬ X c)) → W'.heap[c]? = W.heap[c]?) : InsI w B X W' v L := by
  obtain ⟨sl, h1, h2, h3⟩ := h.row
  refine ⟨sl, row_keep h1 fun k q => ?_, h2, fun j s e hs he => (h3 j s e hs he).keep fun c a b t nx => hk c a b (.inr ⟨t, nx⟩)⟩
  obtain ⟨a, b, t⟩ := row_ty h1 k q
  exact hk k a b (.inl t)
theorem InsS.keep {B : Nat} {W W' : World} {v : Sl} {L : List Ent} (h : InsS B W v L) (hk : ∀ c, B ≤ c → c < W.heap.size → TyAt W c 31 → W'.heap[c]? = W.heap[c]?) : InsS B W' v L :=
  row_keep h fun k q => by
    obtain ⟨a, b, t⟩ := row_ty h k q
    exact hk k a b t
theorem InsI.grow {w : World} {B : Nat} {X : Nat → Prop} {W W' : World} {v : Sl} {L : List Ent} (h : InsI w B X W v L) (he : W.Extends W') : InsI w B X W' v L := h.keep fun c _ hc _ => he.block c hc
theorem InsS.grow {B : Nat} {W W' : World} {v : Sl} {L : List Ent} (h : InsS B W v L) (he : W.Extends W') : InsS B W' v L := h.keep fun c _ hc _ => he.block c hc
theorem InsI.nil (w : World) (B : Nat) (X : Nat → Prop) (W : World) : InsI w B X W ⟨none, 0, 0⟩ [] := ⟨[], ⟨rfl, .inl ⟨rfl, rfl⟩⟩, rfl, fun j s e h => by simp at h⟩
theorem InsS.nil (B : Nat) (W : World) : InsS B W ⟨none, 0, 0⟩ [] := ⟨rfl, .inl ⟨rfl, rfl⟩⟩
theorem InsI.len {w : World} {B : Nat} {X : Nat → Prop} {W : World} {v : Sl} {L : List Ent} (h : InsI w B X W v L) : v.len = L.length := by
  obtain ⟨sl, h1, h2, h3⟩ := h.row
  obtain ⟨S, e, hl⟩ := row_val h1
  simp only [Sl.val] at e
  injection e with _ e2 _
  rw [e2, hl, h2]
theorem InsI.at {w : World} {B : Nat} {X : Nat → Prop} {W : World} {v : Sl} {L : List Ent} (h : InsI w B X W v L) (he : w.Extends W) {j : Nat} {e : Ent} (hj : L[j]? = some e) :
    ∃ g c C s, v = ⟨some ⟨g, 0, none⟩, L.length, c⟩ ∧ blk W g = some C ∧ nth C j = some (Sl.val s) ∧ BytesAt W.heap.size W s.a s.len s.cap e.1 := by
  obtain ⟨sl, h1, h2, h3⟩ := h.row
  have hjl : j < L.length := (List.getElem?_eq_some_iff.1 hj).1
  have hsj : sl[j]? = some (sl[j]'(by omega)) := List.getElem?_eq_some_iff.2 ⟨by omega, rfl⟩
  obtain ⟨_, q | ⟨g, cap, cur, e1, e2, e3, e4, e5, e6, e7⟩⟩ := h1
  · exfalso; omega
  refine ⟨g, cap, cur.toList, sl[j]'(by omega), ?_, blk_mk e3, ?_, (h3 j _ e hsj hj).bytes he⟩
  · cases v with
    | mk a l c =>
      simp only [Sl.val] at e1
      injection e1 with q1 q2 q3
      rw [q1, q2, q3, h2]
  · rw [Nat.mul_one] at e7
    have h4 := congrArg (fun l => l[j]?) e7
    simp only [List.getElem?_take, show j < sl.length by omega, if_true, List.getElem?_map, hsj] at h4
    exact h4
theorem InsS.at {B : Nat} {W : World} {v : Sl} {L : List Ent} (h : InsS B W v L) {j : Nat} {e : Ent} (hj : L[j]? = some e) :
    ∃ g c C, v = ⟨some ⟨g, 0, none⟩, L.length, c⟩ ∧ blk W g = some C ∧ j * 32 + 32 ≤ C.length ∧ seg C (j * 32) 32 = arr u8v e.2 := by
  obtain ⟨hjl, hje⟩ := List.getElem?_eq_some_iff.1 hj
  obtain ⟨_, q | ⟨g, cap, cur, e1, e2, e3, e4, e5, e6, e7⟩⟩ := h
  · exfalso; omega
  have hlen : cur.toList.length = cap * 32 := by rw [Array.length_toList]; exact e6
  have hle : L.length * 32 ≤ cap * 32 := Nat.mul_le_mul_right _ e4
  have hj32 : (j + 1) * 32 ≤ L.length * 32 := Nat.mul_le_mul_right _ hjl
  have hs0 := flat_seg (fun e : Ent => arr u8v e.2) 32 (fun e => length_arr _ _) L j hjl
  refine ⟨g, cap, cur.toList, ?_, blk_mk e3, by omega, ?_⟩
  · cases v with
    | mk a l c =>
      simp only [Sl.val] at e1
      injection e1 with q1 q2 q3
      rw [q1, q2, q3]
  · rw [← hje, ← hs0, ← e7]
    unfold seg
    apply List.ext_getElem?
    intro i
    simp only [List.getElem?_take, List.getElem?_drop]
    by_cases hi : i < 32
    · have a2 : j * 32 + i < L.length * 32 := by omega
      simp [hi, a2]
    · simp [hi]
theorem info40 : ∃ i, Try.prog.info? 40 = some i ∧ i.zero = some (.slice none 0 0) ∧ i.size = 1 ∧ i.bytes = 24 := by
  have hq : (Try.prog.info? 40).map (fun i => (i.zero, i.size, i.bytes)) = some (some (.slice none 0 0), 1, 24) := by kernel_rfl
  cases hx : Try.prog.info? 40 with
  | none => rw [hx] at hq; simp at hq
  | some i =>
    rw [hx] at hq
    simp only [Option.map_some, Option.some.injEq, Prod.mk.injEq] at hq
    exact ⟨i, rfl, hq.1, hq.2.1, hq.2.2⟩
theorem info31 : ∃ i, Try.prog.info? 31 = some i ∧ i.zero = some (.agg (arr u8v (Vector.replicate 32 (0 : UInt8))).toArray) ∧ i.size = 32 ∧ i.bytes = 32 := by
  have hq : (Try.prog.info? 31).map (fun i => (i.zero, i.size, i.bytes)) = some (some (.agg (arr u8v (Vector.replicate 32 (0 : UInt8))).toArray), 32, 32) := by kernel_rfl
  cases hx : Try.prog.info? 31 with
  | none => rw [hx] at hq; simp at hq
  | some i =>
    rw [hx] at hq
    simp only [Option.map_some, Option.some.injEq, Prod.mk.injEq] at hq
    exact ⟨i, rfl, hq.1, hq.2.1, hq.2.2⟩
theorem append57 (w : World) (B : Nat) (S : Sl) (ks : List Sl) (n : Sl) (g : Nat) (hrow : w.ownsRow B 40 1 (Sl.val S) ks.length (ks.map Sl.val)) (hg : blk w g = some [Sl.val n]) (hB : B ≤ w.heap.size) (hk : ks.length ≤ 70000) (ty : TypeId) :
    ∃ (S' : Sl) (w' : World), (Builtin.append_ #[57, 57] ty #[Sl.val S, .slice (some ⟨g, 0, none⟩) 1 1]).run Try.prog w = .ok (Sl.val S') w' ∧ w'.ownsRow B 40 1 (Sl.val S') (ks ++ [n]).length ((ks ++ [n]).map Sl.val) ∧ w.grownBy w' (Sl.val S).ownBlock := by
  obtain ⟨i, hi, hz, hsz, hby⟩ := info40
  have hnews : ∀ j u, [Sl.val n][j]? = some u → w.cell? ((⟨g, 0, none⟩ : Addr).add j) = some u := fun j u hu => by
    rw [add_addr, cell_blk hg, Nat.zero_add]
    exact hu
  obtain ⟨v', w', hr, h1, h2, _⟩ := run_append_own (P := Try.prog) w B 57 ty 40 i _ 1 24 Try.underlying57 hi hz hsz hby rfl (by decide) (Sl.val S) ks.length _ hrow ⟨g, 0, none⟩ 1 1 [Sl.val n] rfl hnews (by simp; rfl) (by simp only [maxLen]; omega) (by omega) hB
  obtain ⟨S', rfl, hSl⟩ := row_val h1
  refine ⟨S', w', hr, ?_, h2⟩
  rw [List.length_append, List.map_append]
  exact h1
theorem append58 (w : World) (B : Nat) (S : Sl) (L : List Ent) (x : Ent) (g : Nat) (hrow : InsS B w S L) (hg : blk w g = some (arr u8v x.2)) (hB : B ≤ w.heap.size) (hn : L.length ≤ 70000) (ty : TypeId) :
    ∃ (S' : Sl) (w' : World), (Builtin.append_ #[58, 58] ty #[Sl.val S, .slice (some ⟨g, 0, none⟩) 1 1]).run Try.prog w = .ok (Sl.val S') w' ∧ InsS B w' S' (L ++ [x]) ∧ w.grownBy w' (Sl.val S).ownBlock := by
  obtain ⟨i, hi, hz, hsz, hby⟩ := info31
  have hnews : ∀ j u, (arr u8v x.2)[j]? = some u → w.cell? ((⟨g, 0, none⟩ : Addr).add j) = some u := fun j u hu => by
    rw [add_addr, cell_blk hg, Nat.zero_add]
    exact hu
  have hone : ∀ u ∈ arr u8v x.2, u.oneCell' = true := fun u hu => by
    unfold arr at hu
    obtain ⟨y, _, rfl⟩ := List.mem_map.1 hu
    rfl
  have hll : (arr u8v x.2).length = 1 * 32 := length_arr _ _
  have hzc : (Value.agg (arr u8v (Vector.replicate 32 (0 : UInt8))).toArray).cells.size = 32 := by simp [Value.cells, length_arr]
  obtain ⟨v', w', hr, h1, h2, _⟩ := run_append_own (P := Try.prog) w B 58 ty 31 i _ 32 32 Try.underlying58 hi hz hsz hby hzc (by decide) (Sl.val S) L.length _ hrow ⟨g, 0, none⟩ 1 1 (arr u8v x.2) hll hnews hone (by simp only [maxLen]; omega) (by omega) hB
  obtain ⟨S', rfl, hSl⟩ := row_val h1
  refine ⟨S', w', hr, ?_, h2⟩
  unfold InsS
  rw [List.length_append, List.flatMap_append]
  simpa using h1
theorem wpList_append_run {w : World} {ops : Array Oper} {rest : List Oper} {o : Oper} {a : Act} {Q : Exit → Act → World → Prop} (hgd : o.guard = none) (s x : Operand) (t : TypeId)
    (ho : o.op = .call { callee := .builtin .append, args := #[s, x], argTypes := #[t, t] }) (v u v' : Value) (w' : World) (hs : a.eval s = v) (hx : a.eval x = u) (hr : (Builtin.append_ #[t, t] o.type #[v, u]).run Try.prog w = .ok v' w')
    (hK : wpList Try.prog ops Q rest (a.put o.dst v') w') : wpList Try.prog ops Q (o :: rest) a w := by
  refine wpList_plain hgd fun K hK' => ?_
  unfold Oper.wp
  simp [execOp, ho, resolve, invoke, builtin, hs, hx, hr, Result.andThen]
  exact hK' _ _ hK
theorem bslice57 (w : World) (a : Option Addr) (l c : Nat) : (bsliceOp 57 1 #[(0, .slice a l c)]).run Try.prog w = .ok (.value (.slice (some ⟨w.heap.size, 0, none⟩) 1 1)) (w.alloc (.cells #[.slice a l c] 40)) := by kernel_rfl
set_option maxRecDepth 100000 in
theorem bslice58_lit (w : World) (x0 x1 x2 x3 x4 x5 x6 x7 x8 x9 x10 x11 x12 x13 x14 x15 x16 x17 x18 x19 x20 x21 x22 x23 x24 x25 x26 x27 x28 x29 x30 x31 : Value) : (bsliceOp 58 1 #[(0, .agg #[x0, x1, x2, x3, x4, x5, x6, x7, x8, x9, x10, x11, x12, x13, x14, x15, x16, x17, x18, x19, x20, x21, x22, x23, x24, x25, x26, x27, x28, x29, x30, x31])]).run Try.prog w = .ok (.value (.slice (some ⟨w.heap.size, 0, none⟩) 1 1)) (w.alloc (.cells #[x0, x1, x2, x3, x4, x5, x6, x7, x8, x9, x10, x11, x12, x13, x14, x15, x16, x17, x18, x19, x20, x21, x22, x23, x24, x25, x26, x27, x28, x29, x30, x31] 31)) := by kernel_rfl
theorem bslice58 (w : World) (d : Vector UInt8 32) : (bsliceOp 58 1 #[(0, .agg (arr u8v d).toArray)]).run Try.prog w = .ok (.value (.slice (some ⟨w.heap.size, 0, none⟩) 1 1)) (w.alloc (.cells (arr u8v d).toArray 31)) := by
  have hL : (arr u8v d).length = 32 := length_arr _ _
  generalize arr u8v d = L at hL
  obtain ⟨x0, L0, rfl, hL0⟩ := split1 _ _ hL
  obtain ⟨x1, L1, rfl, hL1⟩ := split1 _ _ hL0
  obtain ⟨x2, L2, rfl, hL2⟩ := split1 _ _ hL1
  obtain ⟨x3, L3, rfl, hL3⟩ := split1 _ _ hL2
  obtain ⟨x4, L4, rfl, hL4⟩ := split1 _ _ hL3
  obtain ⟨x5, L5, rfl, hL5⟩ := split1 _ _ hL4
  obtain ⟨x6, L6, rfl, hL6⟩ := split1 _ _ hL5
  obtain ⟨x7, L7, rfl, hL7⟩ := split1 _ _ hL6
  obtain ⟨x8, L8, rfl, hL8⟩ := split1 _ _ hL7
  obtain ⟨x9, L9, rfl, hL9⟩ := split1 _ _ hL8
  obtain ⟨x10, L10, rfl, hL10⟩ := split1 _ _ hL9
  obtain ⟨x11, L11, rfl, hL11⟩ := split1 _ _ hL10
  obtain ⟨x12, L12, rfl, hL12⟩ := split1 _ _ hL11
  obtain ⟨x13, L13, rfl, hL13⟩ := split1 _ _ hL12
  obtain ⟨x14, L14, rfl, hL14⟩ := split1 _ _ hL13
  obtain ⟨x15, L15, rfl, hL15⟩ := split1 _ _ hL14
  obtain ⟨x16, L16, rfl, hL16⟩ := split1 _ _ hL15
  obtain ⟨x17, L17, rfl, hL17⟩ := split1 _ _ hL16
  obtain ⟨x18, L18, rfl, hL18⟩ := split1 _ _ hL17
  obtain ⟨x19, L19, rfl, hL19⟩ := split1 _ _ hL18
  obtain ⟨x20, L20, rfl, hL20⟩ := split1 _ _ hL19
  obtain ⟨x21, L21, rfl, hL21⟩ := split1 _ _ hL20
  obtain ⟨x22, L22, rfl, hL22⟩ := split1 _ _ hL21
  obtain ⟨x23, L23, rfl, hL23⟩ := split1 _ _ hL22
  obtain ⟨x24, L24, rfl, hL24⟩ := split1 _ _ hL23
  obtain ⟨x25, L25, rfl, hL25⟩ := split1 _ _ hL24
  obtain ⟨x26, L26, rfl, hL26⟩ := split1 _ _ hL25
  obtain ⟨x27, L27, rfl, hL27⟩ := split1 _ _ hL26
  obtain ⟨x28, L28, rfl, hL28⟩ := split1 _ _ hL27
  obtain ⟨x29, L29, rfl, hL29⟩ := split1 _ _ hL28
  obtain ⟨x30, L30, rfl, hL30⟩ := split1 _ _ hL29
  obtain ⟨x31, L31, rfl, hL31⟩ := split1 _ _ hL30
  obtain rfl := List.eq_nil_of_length_eq_zero hL31
  exact bslice58_lit w x0 x1 x2 x3 x4 x5 x6 x7 x8 x9 x10 x11 x12 x13 x14 x15 x16 x17 x18 x19 x20 x21 x22 x23 x24 x25 x26 x27 x28 x29 x30 x31
theorem _root_.Go.Blk.Ext.drewN {w W : World} (h : Ext w W) (n : Nat) : Ext w (W.drewN n) := by obtain ⟨G, m, rfl⟩ := h; exact ⟨G, m + n, by simp [World.drewN, Blk.ext, Nat.add_assoc]⟩
theorem InsI.newX {w : World} {B : Nat} {X X' : Nat → Prop} {W : World} {v : Sl} {L : List Ent} (h : InsI w B X W v L) (hX : ∀ k, k < W.heap.size → X' k → X k) : InsI w B X' W v L := by
  obtain ⟨sl, h1, h2, h3⟩ := h.row
  refine ⟨sl, h1, h2, fun j s e hs he => ⟨(h3 j s e hs he).1, ?_⟩⟩
  rcases (h3 j s e hs he).2 with q | q
  · exact .inl q
  · exact .inr ⟨q.1, fun k hk hx => q.2 k hk (hX k (row_ty q.1 k hk).2.1 hx)⟩
/-- The blocks of the model's two messages. -/
def hx (st : GState) (k : Nat) : Prop := (Sl.val st.hand).ownBlock = some k ∨ (Sl.val st.aside).ownBlock = some k
theorem InsI.move {w : World} {B : Nat} {X X' : Nat → Prop} {W W' : World} {v : Sl} {L : List Ent} (h : InsI w B X W v L) (hk : ∀ c, B ≤ c → c < W.heap.size → (TyAt W c 40 ∨ (TyAt W c 5 ∧ ¬ X c)) → W'.heap[c]? = W.heap[c]?) (hX : ∀ k, k < W.heap.size → X' k → X k) : InsI w B X' W' v L := by
  obtain ⟨sl, h1, h2, h3⟩ := h.row
  refine ⟨sl, row_keep h1 fun k q => ?_, h2, fun j s e hs he => ⟨(h3 j s e hs he).1, ?_⟩⟩
  · obtain ⟨a, b, t⟩ := row_ty h1 k q
    exact hk k a b (.inl t)
  rcases (h3 j s e hs he).2 with q | q
  · exact .inl q
  · refine .inr ⟨q.1.keep fun k hk' => ?_, fun k hk' hx => q.2 k hk' (hX k (row_ty q.1 k hk').2.1 hx)⟩
    obtain ⟨a, b, t⟩ := row_ty q.1 k hk'
    exact hk k a b (.inr ⟨t, q.2 k hk'⟩)
theorem InsI.add {w : World} {B : Nat} {X : Nat → Prop} {W : World} {vi : Sl} {L : List Ent} {s : Sl} {g : Nat} (x : Ent) (hI : InsI w B X W vi L) (hg : blk W g = some [Sl.val s]) (hx : SrcAt w B X W s x.1) (hB : B ≤ W.heap.size) (hn : L.length ≤ 70000) (ty : TypeId) :
    ∃ (vi' : Sl) (W' : World), (Builtin.append_ #[57, 57] ty #[Sl.val vi, .slice (some ⟨g, 0, none⟩) 1 1]).run Try.prog W = .ok (Sl.val vi') W' ∧ InsI w B X W' vi' (L ++ [x]) ∧ W.grownBy W' (Sl.val vi).ownBlock := by
  obtain ⟨sl, h1, h2, h3⟩ := hI.row
  obtain ⟨vi', W', hr, h4, h5⟩ := append57 W B vi sl s g h1 hg hB (by omega) ty
  have hk5 : ∀ c, B ≤ c → c < W.heap.size → TyAt W c 5 → ¬ X c → W'.heap[c]? = W.heap[c]? := fun c _ hc ht _ => h5.block c hc fun e => ht.ne (by decide) (row_ty h1 c e.symm).2.2
  refine ⟨vi', W', hr, ⟨sl ++ [s], h4, by simp [h2], ?_⟩, h5⟩
  intro j s' e hs he
  by_cases hj : j < L.length
  · rw [List.getElem?_append_left (by omega)] at hs
    rw [List.getElem?_append_left hj] at he
    exact (h3 j s' e hs he).keep hk5
  · have hj2 : j < L.length + 1 := by
      have := (List.getElem?_eq_some_iff.1 he).1
      simpa using this
    obtain rfl : j = L.length := by omega
    rw [← h2, List.getElem?_append_right (Nat.le_refl _), Nat.sub_self] at hs
    rw [List.getElem?_append_right (Nat.le_refl _), Nat.sub_self] at he
    obtain rfl := Option.some.inj hs
    obtain rfl := Option.some.inj he
    exact hx.keep hk5
structure MAt (w : World) (bm : Nat) (st : GState) (S : PS) (L M : List Ent) (W : World) : Prop where
  blk : Blk.blk W bm = some st.enc
  free : Blk.free W bm = true
  ty : TyAt W bm 60
  hd : OwnB (bm + 1) W (Sl.val st.hand) S.mh
  asd : OwnB (bm + 1) W (Sl.val st.aside) S.ma
  ne : ∀ k, (Sl.val st.hand).ownBlock = some k → (Sl.val st.aside).ownBlock ≠ some k
  pv : st.prev = S.prev
  ls : st.last = S.last
  ins : InsI w (bm + 1) (hx st) W st.inputs L
  sms : InsS (bm + 1) W st.sums M
  base : w.heap.size ≤ bm
  ext : w.Extends W
def MFd (st : GState) (A : ALog) : Prop := st.collided = A.fd.isSome ∧ ∀ i j, A.fd = some (i, j) → st.older = (i : Int) ∧ st.younger = (j : Int)
theorem MAt.lt {w : World} {bm : Nat} {st : GState} {S : PS} {L M : List Ent} {W : World} (h : MAt w bm st S L M W) : bm < W.heap.size := blk_lt h.blk
theorem MAt.hx_lt {w : World} {bm : Nat} {st : GState} {S : PS} {L M : List Ent} {W : World} (h : MAt w bm st S L M W) {k : Nat} (hk : hx st k) : bm < k ∧ k < W.heap.size ∧ TyAt W k 5 := by
  rcases hk with q | q
  · obtain ⟨h1, h2, h3⟩ := row_ty h.hd k q
    exact ⟨h1, h2, h3⟩
  · obtain ⟨h1, h2, h3⟩ := row_ty h.asd k q
    exact ⟨h1, h2, h3⟩
theorem MAt.grow {w : World} {bm : Nat} {st : GState} {S : PS} {L M : List Ent} {W W' : World} (h : MAt w bm st S L M W) (he : W.Extends W') : MAt w bm st S L M W' :=
  ⟨(he.blk h.lt).trans h.blk, (free_of_heap (he.block _ h.lt)).trans h.free, h.ty.of_heap (he.block _ h.lt), h.hd.mono he.block, h.asd.mono he.block, h.ne, h.pv, h.ls, h.ins.grow he, h.sms.grow he, h.base, h.ext.trans he⟩
/-- What a step of the model may touch: its own block, its two messages, its two rows. -/
structure MOut (bm : Nat) (st st' : GState) (W W' : World) : Prop where
  os : W'.os = W.os
  tape : W'.tape = W.tape
  output : W'.output = W.output
  size : W.heap.size ≤ W'.heap.size
  keep : ∀ c, c < W.heap.size → c ≠ bm → ¬ hx st c → (c ≤ bm ∨ (¬ TyAt W c 40 ∧ ¬ TyAt W c 31)) → W'.heap[c]? = W.heap[c]?
  new : ∀ k, k < W.heap.size → hx st' k → hx st k
theorem MOut.of_ext {bm : Nat} {st : GState} {W W' : World} (h : W.Extends W') : MOut bm st st W W' := ⟨h.os, h.tape, h.output, h.size, fun c hc _ _ _ => h.block c hc, fun k _ h => h⟩
theorem MOut.trans {bm : Nat} {st st' st'' : GState} {W W' W'' : World} (h : MOut bm st st' W W') (h' : MOut bm st' st'' W' W'') : MOut bm st st'' W W'' := by
  refine ⟨h'.os.trans h.os, h'.tape.trans h.tape, h'.output.trans h.output, Nat.le_trans h.size h'.size, fun c hc h1 h2 h3 => ?_, fun k hk hx => h.new k hk (h'.new k (Nat.lt_of_lt_of_le hk h.size) hx)⟩
  have e := h.keep c hc h1 h2 h3
  refine (h'.keep c (Nat.lt_of_lt_of_le hc h.size) h1 (fun q => h2 (h.new c hc q)) ?_).trans e
  rcases h3 with q | ⟨q1, q2⟩
  · exact .inl q
  · exact .inr ⟨fun t => q1 (t.of_heap e.symm), fun t => q2 (t.of_heap e.symm)⟩
theorem MOut.grow {bm : Nat} {st st' : GState} {W W' W'' : World} (h : MOut bm st st' W W') (he : W'.Extends W'') : MOut bm st st' W W'' := h.trans (MOut.of_ext he)
theorem PlayAt.mstep {w w' : World} {bp bm : Nat} {p : Player} {S : PS} {st st' : GState} {W W' : World} (h : PlayAt w bp p S (hx st) W) (ho : MOut bm st st' W W') (hm : bp < bm) (hmt : ¬ logTy W bm) (hxb : ∀ k, hx st k → bm < k ∧ TyAt W k 5) : PlayAt w bp p S (hx st') W' := by
  have hb := h.base
  have hlt := h.lt
  obtain ⟨nx, ix, hL⟩ := h.log
  have hlow : ∀ c, c ≤ bp → W'.heap[c]? = W.heap[c]? := fun c hc => ho.keep c (by omega) (by omega) (fun q => by have := (hxb c q).1; omega) (.inl (by omega))
  have hrow : ∀ c, c < W.heap.size → (TyAt W c 110 ∨ TyAt W c 3 ∨ (TyAt W c 5 ∧ ¬ hx st c)) → W'.heap[c]? = W.heap[c]? := fun c hc ht => by
    have hne : c ≠ bm := fun e => hmt (by
      subst e
      rcases ht with ⟨a, b, t⟩ | ⟨a, b, t⟩ | ⟨⟨a, b, t⟩, _⟩
      · exact ⟨a, _, b, t, .inl rfl⟩
      · exact ⟨a, _, b, t, .inr (.inl rfl)⟩
      · exact ⟨a, _, b, t, .inr (.inr rfl)⟩)
    refine ho.keep c hc hne (fun q => ?_) (.inr ?_)
    · rcases ht with t | t | ⟨_, t⟩
      · exact t.ne (by decide) (hxb c q).2
      · exact t.ne (by decide) (hxb c q).2
      · exact t q
    · rcases ht with t | t | ⟨t, _⟩
      · exact ⟨t.ne (by decide), t.ne (by decide)⟩
      · exact ⟨t.ne (by decide), t.ne (by decide)⟩
      · exact ⟨t.ne (by decide), t.ne (by decide)⟩
  have hbb := hlow bp (Nat.le_refl _)
  have hL' : LogOk (bp + 1) W' p.log nx ix S.A (hx st) := by
    refine ⟨row_keep hL.rowE fun k hk => hrow k (row_ty hL.rowE k hk).2.1 (.inl (row_ty hL.rowE k hk).2.2), hL.clen, fun j n e hn he => ?_, fun s hs => row_keep (hL.rowS s hs) fun k hk => hrow k (row_ty (hL.rowS s hs) k hk).2.1 (.inr (.inl (row_ty (hL.rowS s hs) k hk).2.2)), hL.rng, hL.few, hL.sep, hL.ixs, hL.fnd, hL.fst⟩
    obtain ⟨h1, h2, h3, h4⟩ := hL.con j n e hn he
    exact ⟨h1, row_keep h2 fun k hk => hrow k (row_ty h2 k hk).2.1 (.inr (.inr ⟨(row_ty h2 k hk).2.2, h4 k hk⟩)), h3, h4⟩
  have hL2 : LogOk (bp + 1) W' p.log nx ix S.A (hx st') := by
    refine ⟨hL'.rowE, hL'.clen, fun j n e hn he => ?_, hL'.rowS, hL'.rng, hL'.few, hL'.sep, hL'.ixs, hL'.fnd, hL'.fst⟩
    obtain ⟨h1, h2, h3, h4⟩ := hL'.con j n e hn he
    obtain ⟨_, h2', _, _⟩ := hL.con j n e hn he
    exact ⟨h1, h2, h3, fun k hk q => h4 k hk (ho.new k (row_ty h2' k hk).2.1 q)⟩
  refine ⟨(blk_of_heap hbb).trans h.blk, (free_of_heap hbb).trans h.free, h.rh, h.ra, h.pv, h.ls, ⟨nx, ix, hL2⟩, h.base, ?_⟩
  exact extends_of h.ext hb ho.os ho.tape ho.output ho.size fun k q1 _ => hlow k (by omega)
theorem MAt.out {w : World} {bm : Nat} {st st' : GState} {S S' : PS} {L M : List Ent} {W W' : World} (h : MAt w bm st S L M W) (ho : Out W W' bm st'.enc) (hh : OwnB (bm + 1) W (Sl.val st'.hand) S'.mh) (ha : OwnB (bm + 1) W (Sl.val st'.aside) S'.ma) (hne : ∀ k, (Sl.val st'.hand).ownBlock = some k → (Sl.val st'.aside).ownBlock ≠ some k) (hX : ∀ k, hx st' k → hx st k) (hi : st'.inputs = st.inputs) (hs : st'.sums = st.sums) (hp : st'.prev = S'.prev) (hl : st'.last = S'.last) :
    MAt w bm st' S' L M W' ∧ MOut bm st st' W W' := by
  have hlt := h.lt
  have hb := h.base
  have hk : ∀ c, c < W.heap.size → c ≠ bm → W'.heap[c]? = W.heap[c]? := fun c h1 h2 => heap_out ho h1 h2
  have h5 := ho
  obtain ⟨G, n, e⟩ := h5
  refine ⟨⟨ho.blk_at h.blk, (ho.free h.lt).trans h.free, h.ty.out ho, hh.keep fun k q => ?_, ha.keep fun k q => ?_, hne, hp, hl, ?_, ?_, h.base, ?_⟩, ⟨by rw [e]; rfl, by rw [e]; rfl, by rw [e]; rfl, ho.size, fun c h1 h2 _ _ => hk c h1 h2, fun k _ q => hX k q⟩⟩
  · obtain ⟨a, b, _⟩ := row_ty hh k q
    exact hk k b (by omega)
  · obtain ⟨a, b, _⟩ := row_ty ha k q
    exact hk k b (by omega)
  · rw [hi]
    exact h.ins.move (fun c a b _ => hk c b (by omega)) (fun k _ q => hX k q)
  · rw [hs]
    exact h.sms.keep fun c a b _ => hk c b (by omega)
  · exact extends_of (bp := bm) h.ext hb (by rw [e]; rfl) (by rw [e]; rfl) (by rw [e]; rfl) ho.size fun k h1 h2 => hk k h2 (by omega)
theorem MAt.fed {w : World} {bm : Nat} {st : GState} {S : PS} {L M : List Ent} {W W1 : World} {v' : Sl} {ys : List UInt8} (h : MAt w bm st S L M W) (ho : OwnB (bm + 1) W1 (Sl.val v') (S.mh ++ ys)) (hg : W.grownBy W1 (Sl.val st.hand).ownBlock) (hbk : (Sl.val v').ownBlock = (Sl.val st.hand).ownBlock ∨ (Sl.val v').ownBlock = some W.heap.size) (hb1 : Blk.blk W1 bm = some st.enc) (hf1 : Blk.free W1 bm = true) :
    MAt w bm { st with hand := v' } { S with mh := S.mh ++ ys } L M (put W1 bm ({ st with hand := v' } : GState).enc) ∧ MOut bm st { st with hand := v' } W (put W1 bm ({ st with hand := v' } : GState).enc) := by
  have hlt := h.lt
  have hb := h.base
  have hk : ∀ c, c < W.heap.size → c ≠ bm → (Sl.val st.hand).ownBlock ≠ some c → (put W1 bm ({ st with hand := v' } : GState).enc).heap[c]? = W.heap[c]? := fun c h1 h2 h3 => by
    rw [heap_put, if_neg h2]
    exact hg.block c h1 (Ne.symm h3)
  have hnew : ∀ k, k < W.heap.size → hx { st with hand := v' } k → hx st k := fun k hk q => by
    rcases q with q | q
    · rcases hbk with e | e
      · exact .inl (e.symm.trans q)
      · have : (Sl.val v').ownBlock = some k := q
        rw [e] at this
        have := Option.some.inj this
        omega
    · exact .inr q
  refine ⟨⟨by rw [blk_put, if_pos rfl, hb1]; rfl, by rw [free_put]; exact hf1, ?_, ho.keep fun k q => ?_, h.asd.keep fun k q => ?_, fun k q1 q2 => ?_, h.pv, h.ls, h.ins.move (fun c a b t => ?_) hnew, h.sms.keep fun c a b t => ?_, h.base, ?_⟩, ⟨hg.os, hg.tape, hg.output, by rw [size_put]; exact hg.size, fun c h1 h2 h3 _ => hk c h1 h2 (fun q => h3 (.inl q)), hnew⟩⟩
  · exact (h.ty.of_heap (hg.block bm hlt fun q => by have := (row_ty h.hd bm q.symm).1; omega)).put _ _
  · rw [heap_put, if_neg (by have := (row_ty ho k q).1; omega)]
  · obtain ⟨a, b, _⟩ := row_ty h.asd k q
    exact hk k b (by omega) (fun e => h.ne k e q)
  · rcases hbk with e | e
    · exact h.ne k (e.symm.trans q1) q2
    · have h1 : (Sl.val v').ownBlock = some k := q1
      rw [e] at h1
      have := Option.some.inj h1
      have := (row_ty h.asd k q2).2.1
      omega
  · refine hk c b (by omega) (fun q => ?_)
    rcases t with t | t
    · exact t.ne (by decide) (row_ty h.hd c q).2.2
    · exact t.2 (.inl q)
  · exact hk c b (by omega) (fun q => t.ne (by decide) (row_ty h.hd c q).2.2)
  · exact extends_of (bp := bm) h.ext hb hg.os hg.tape hg.output (by rw [size_put]; exact hg.size) fun k h1 h2 => hk k h2 (by omega) (fun q => by have := (row_ty h.hd k q).1; omega)
theorem MAt.rowI {w : World} {bm : Nat} {st : GState} {S : PS} {L L' M : List Ent} {W W1 : World} {v' : Sl} (h : MAt w bm st S L M W) (hI : InsI w (bm + 1) (hx st) W1 v' L') (hg : W.grownBy W1 (Sl.val st.inputs).ownBlock) (hb1 : Blk.blk W1 bm = some st.enc) (hf1 : Blk.free W1 bm = true) :
    MAt w bm { st with inputs := v' } S L' M (put W1 bm ({ st with inputs := v' } : GState).enc) ∧ MOut bm st { st with inputs := v' } W (put W1 bm ({ st with inputs := v' } : GState).enc) := by
  have hlt := h.lt
  have hb := h.base
  have hrt : ∀ c, (Sl.val st.inputs).ownBlock = some c → bm < c ∧ TyAt W c 40 := fun c q => by
    obtain ⟨sl, h1, _, _⟩ := h.ins.row
    exact ⟨(row_ty h1 c q).1, (row_ty h1 c q).2.2⟩
  have hk : ∀ c, c < W.heap.size → c ≠ bm → (c ≤ bm ∨ ¬ TyAt W c 40) → (put W1 bm ({ st with inputs := v' } : GState).enc).heap[c]? = W.heap[c]? := fun c h1 h2 h3 => by
    rw [heap_put, if_neg h2]
    exact hg.block c h1 fun q => by
      rcases h3 with o | o
      · have := (hrt c q.symm).1; omega
      · exact o (hrt c q.symm).2
  have hput : ∀ c, c ≠ bm → (put W1 bm ({ st with inputs := v' } : GState).enc).heap[c]? = W1.heap[c]? := fun c h2 => by rw [heap_put, if_neg h2]
  refine ⟨⟨by rw [blk_put, if_pos rfl, hb1]; rfl, by rw [free_put]; exact hf1, ?_, h.hd.keep fun k q => ?_, h.asd.keep fun k q => ?_, h.ne, h.pv, h.ls, hI.move (fun c a b t => hput c (by omega)) (fun k _ q => q), h.sms.keep fun c a b t => ?_, h.base, ?_⟩, ⟨hg.os, hg.tape, hg.output, by rw [size_put]; exact hg.size, fun c h1 h2 h3 h4 => hk c h1 h2 (h4.imp id And.left), fun k _ q => q⟩⟩
  · exact (h.ty.of_heap (hg.block bm hlt fun q => by have := (hrt bm q.symm).1; omega)).put _ _
  · obtain ⟨a, b, t⟩ := row_ty h.hd k q
    exact hk k b (by omega) (.inr (t.ne (by decide)))
  · obtain ⟨a, b, t⟩ := row_ty h.asd k q
    exact hk k b (by omega) (.inr (t.ne (by decide)))
  · exact hk c b (by omega) (.inr (t.ne (by decide)))
  · exact extends_of (bp := bm) h.ext hb hg.os hg.tape hg.output (by rw [size_put]; exact hg.size) fun k h1 h2 => hk k h2 (by omega) (.inl (by omega))
theorem MAt.rowS {w : World} {bm : Nat} {st : GState} {S : PS} {L M M' : List Ent} {W W1 : World} {v' : Sl} (h : MAt w bm st S L M W) (hI : InsS (bm + 1) W1 v' M') (hg : W.grownBy W1 (Sl.val st.sums).ownBlock) (hb1 : Blk.blk W1 bm = some st.enc) (hf1 : Blk.free W1 bm = true) :
    MAt w bm { st with sums := v' } S L M' (put W1 bm ({ st with sums := v' } : GState).enc) ∧ MOut bm st { st with sums := v' } W (put W1 bm ({ st with sums := v' } : GState).enc) := by
  have hlt := h.lt
  have hb := h.base
  have hrt : ∀ c, (Sl.val st.sums).ownBlock = some c → bm < c ∧ TyAt W c 31 := fun c q => ⟨(row_ty h.sms c q).1, (row_ty h.sms c q).2.2⟩
  have hk : ∀ c, c < W.heap.size → c ≠ bm → (c ≤ bm ∨ ¬ TyAt W c 31) → (put W1 bm ({ st with sums := v' } : GState).enc).heap[c]? = W.heap[c]? := fun c h1 h2 h3 => by
    rw [heap_put, if_neg h2]
    exact hg.block c h1 fun q => by
      rcases h3 with o | o
      · have := (hrt c q.symm).1; omega
      · exact o (hrt c q.symm).2
  have hput : ∀ c, c ≠ bm → (put W1 bm ({ st with sums := v' } : GState).enc).heap[c]? = W1.heap[c]? := fun c h2 => by rw [heap_put, if_neg h2]
  refine ⟨⟨by rw [blk_put, if_pos rfl, hb1]; rfl, by rw [free_put]; exact hf1, ?_, h.hd.keep fun k q => ?_, h.asd.keep fun k q => ?_, h.ne, h.pv, h.ls, h.ins.move (fun c a b t => ?_) (fun k _ q => q), hI.keep fun c a b t => hput c (by omega), h.base, ?_⟩, ⟨hg.os, hg.tape, hg.output, by rw [size_put]; exact hg.size, fun c h1 h2 h3 h4 => hk c h1 h2 (h4.imp id And.right), fun k _ q => q⟩⟩
  · exact (h.ty.of_heap (hg.block bm hlt fun q => by have := (hrt bm q.symm).1; omega)).put _ _
  · obtain ⟨a, b, t⟩ := row_ty h.hd k q
    exact hk k b (by omega) (.inr (t.ne (by decide)))
  · obtain ⟨a, b, t⟩ := row_ty h.asd k q
    exact hk k b (by omega) (.inr (t.ne (by decide)))
  · refine hk c b (by omega) (.inr ?_)
    rcases t with t | t
    · exact t.ne (by decide)
    · exact t.1.ne (by decide)
  · exact extends_of (bp := bm) h.ext hb hg.os hg.tape hg.output (by rw [size_put]; exact hg.size) fun k h1 h2 => hk k h2 (by omega) (.inl (by omega))
theorem MAt.beside {w : World} {bp bm : Nat} {st : GState} {S : PS} {L M : List Ent} {W W' : World} (h : MAt w bm st S L M W) (hm : bp < bm) (hb : Beside bp W W') (he : w.Extends W') : MAt w bm st S L M W' := by
  have hk : ∀ c, bp < c → c < W.heap.size → (TyAt W c 60 ∨ TyAt W c 5 ∨ TyAt W c 40 ∨ TyAt W c 31) → W'.heap[c]? = W.heap[c]? := fun c h1 h2 h3 => hb c h2 (by omega) (by
    rcases h3 with q | q | q | q <;> exact q.not_row (by decide))
  have hbb := hk bm hm h.lt (.inl h.ty)
  refine ⟨(blk_of_heap hbb).trans h.blk, (free_of_heap hbb).trans h.free, h.ty.of_heap hbb, h.hd.keep fun k q => ?_, h.asd.keep fun k q => ?_, h.ne, h.pv, h.ls, h.ins.keep fun c a b t => hk c (by omega) b ?_, h.sms.keep fun c a b t => hk c (by omega) b (.inr (.inr (.inr t))), h.base, he⟩
  · obtain ⟨h1, h2, h3⟩ := row_ty h.hd k q
    exact hk k (by omega) h2 (.inr (.inl h3))
  · obtain ⟨h1, h2, h3⟩ := row_ty h.asd k q
    exact hk k (by omega) h2 (.inr (.inl h3))
  · rcases t with t | t
    · exact .inr (.inr (.inl t))
    · exact .inr (.inl t.1)
end Go.Proofs.Qxb6500785a
