import Derived.Test.Qxb6500785aStepB2
import Derived.Test.Qxb6500785aStepB2
import Derived.Test.Qxb6500785aColl
import Derived.Test.Qxb6500785aStream
import Derived.Test.Qxb6500785aApart
import Derived.Test.Qxb6500785aKnown
import Derived.Deep.RegionHeld
import Derived.Deep.CutRange
import Derived.Laws.ResultCell
import Derived.Laws.Rows
set_option linter.unusedSimpArgs false
set_option linter.unusedVariables false
namespace Go.Proofs.Qxb6500785a
open Go.RowKit Go.Blk
attribute [local go_sem ↓] execOp_load execOp_store execOp_alloc
attribute [local go_sem] Try.ld24 Try.st24 Try.ld5 Try.st5 Try.ld3 Try.st3 Try.ld27 Try.st27 Try.ld32 Try.st32 Try.ld33 Try.st33 Try.ld4 Try.st4 Try.ld41 Try.st41 Try.ld40 Try.st40 Try.ld42 Try.st42 Try.ld47 Try.st47 Try.ld48 Try.st48 Try.ld57 Try.st57 Try.ld58 Try.st58 Try.ld2 Try.st2 Try.ld9 Try.st9 Try.ld12 Try.st12 Try.ld21 Try.st21 Try.ld22 Try.st22 Try.ld46 Try.st46 Try.ld83 Try.st83 Try.ld95 Try.st95 Try.ld99 Try.st99 Try.ld106 Try.st106 Try.ld108 Try.st108 Try.ld134 Try.st134 Try.ld25 Try.st25 Try.ld26 Try.st26 Try.ld34 Try.st34 Try.ld31 Try.st31 Try.ld30 Try.st30 Try.ld74 Try.st74 Try.ld96 Try.st96 Try.ld101 Try.st101 Try.ld115 Try.st115 Try.ld116 Try.st116 Try.ld120 Try.st120 Try.ld121 Try.st121 Try.ld122 Try.st122 Try.ld29 Try.st29 Try.ld36 Try.st36 Try.ld38 Try.st38 Try.ld44 Try.st44 Try.ld50 Try.st50 Try.ld60 Try.st60 Try.ld110 Try.st110 Try.al25 Try.al26 Try.al34 Try.al31 Try.al30 Try.al74 Try.al96 Try.al101 Try.al115 Try.al116 Try.al120 Try.al121 Try.al122 Try.al29 Try.al36 Try.al38 Try.al44 Try.al50 Try.al60 Try.al110
attribute [local go_sem] Hasher.length_enc Hasher.ok_enc Hasher.all_get Hasher.all_set Hasher.state_get Hasher.state_set Hasher.block_get Hasher.block_set Hasher.fill_get Hasher.fill_set Hasher.length_get Hasher.length_set GLog.length_enc GLog.ok_enc GLog.all_get GLog.all_set GLog.entries_get GLog.entries_set GLog.shelves_get GLog.shelves_set GLog.first_get GLog.first_set GLog.second_get GLog.second_set GLog.found_get GLog.found_set Player.length_enc Player.ok_enc Player.all_get Player.all_set Player.hand_get Player.hand_set Player.aside_get Player.aside_set Player.prev_get Player.prev_set Player.last_get Player.last_set Player.log_get Player.log_set Player.hand_state_get Player.hand_state_set Player.hand_block_get Player.hand_block_set Player.hand_fill_get Player.hand_fill_set Player.hand_length_get Player.hand_length_set Player.aside_state_get Player.aside_state_set Player.aside_block_get Player.aside_block_set Player.aside_fill_get Player.aside_fill_set Player.aside_length_get Player.aside_length_set Player.log_entries_get Player.log_entries_set Player.log_shelves_get Player.log_shelves_set Player.log_first_get Player.log_first_set Player.log_second_get Player.log_second_set Player.log_found_get Player.log_found_set GOp.length_enc GOp.ok_enc GOp.all_get GOp.all_set GOp.kind_get GOp.kind_set GOp.data_get GOp.data_set GOp.cut_get GOp.cut_set GOp.n_get GOp.n_set GOp.b_get GOp.b_set GOp.v_get GOp.v_set GOp.dom_get GOp.dom_set GOp.sum_get GOp.sum_set Answer.length_enc Answer.ok_enc Answer.all_get Answer.all_set Answer.code_get Answer.code_set Answer.sum_get Answer.sum_set Answer.len_get Answer.len_set Answer.mark_get Answer.mark_set Answer.noted_get Answer.noted_set Answer.collided_get Answer.collided_set GState.length_enc GState.ok_enc GState.all_get GState.all_set GState.hand_get GState.hand_set GState.aside_get GState.aside_set GState.prev_get GState.prev_set GState.last_get GState.last_set GState.inputs_get GState.inputs_set GState.sums_get GState.sums_set GState.collided_get GState.collided_set GState.older_get GState.older_set GState.younger_get GState.younger_set Noted.length_enc Noted.ok_enc Noted.all_get Noted.all_set Noted.input_get Noted.input_set Noted.sum_get Noted.sum_set
attribute [local go_sem] size_put size_ext blk_put free_put blk_alloc free_alloc blk_drew free_drew blk_ext free_ext lookOr_some putOr_some segAt_some cellAt_some storeIn_some put_put put_alloc_new length_arr ok_arr_u8 ok_arr_u32 ok_arr_u64 ok_arr_i64 ok_arr_sl cellsV_agg cellsV_int cellsV_bool cellsV_string cellsV_pointer cellsV_slice cellsV_sl ok_int ok_bool ok_string ok_pointer ok_slice ok_sl toList_arr seg_arr set_arr nth_splice nth_splice0 seg_splice seg_splice0 splice_splice splice_splice0 length_splice_if
attribute [local go_sem] w32_and w32_or w32_xor w32_add w32_or8 w32_not w8_and w8_or w8_xor w32_shr2 w32_shl2 w32_shr3 w32_shl3 w32_shr6 w32_shl6 w32_shr7 w32_shl7 w32_shr8 w32_shl8 w32_shr10 w32_shl10 w32_shr11 w32_shl11 w32_shr13 w32_shl13 w32_shr14 w32_shl14 w32_shr15 w32_shl15 w32_shr16 w32_shl16 w32_shr17 w32_shl17 w32_shr18 w32_shl18 w32_shr19 w32_shl19 w32_shr21 w32_shl21 w32_shr22 w32_shl22 w32_shr24 w32_shl24 w32_shr25 w32_shl25 w32_shr26 w32_shl26 w32_shr30 w32_shl30 w8_shl24 w8_shl16 w8_shl8 v32_add v32_byte w32_byte0 v8_shl24 v8_shl16 v8_shl8 v32_shr2 v32_shl2 v32_shr3 v32_shl3 v32_shr6 v32_shl6 v32_shr7 v32_shl7 v32_shr8 v32_shl8 v32_shr10 v32_shl10 v32_shr11 v32_shl11 v32_shr13 v32_shl13 v32_shr14 v32_shl14 v32_shr15 v32_shl15 v32_shr16 v32_shl16 v32_shr17 v32_shl17 v32_shr18 v32_shl18 v32_shr19 v32_shl19 v32_shr21 v32_shl21 v32_shr22 v32_shl22 v32_shr24 v32_shl24 v32_shr25 v32_shl25 v32_shr26 v32_shl26 v32_shr30 v32_shl30
attribute [local go_sem ↓] execOp_build
attribute [local go_sem] run_build_kv run_build_iv nth_arr_u32 put_arr_u32 nth_arr_u8 put_arr_u8 v32_of8 blk_drewN free_drewN put_drewN put_drew blk_raw free_raw
attribute [local go_sem ↓] execOp_slice execOp_copy
attribute [local go_sem] Try.sl40lo Try.sl40hi Try.sl26lo Try.sl26hi Try.sl26 Try.sl96lo Try.sl96hi Try.sl96 Try.sl31lo Try.sl31 Try.sl120 Try.sl121 Try.sl121lo Try.sl121hi Try.cp40 copyOr_some copyIn_some srcB_drew srcB_drewN srcB_raw length_bv one_bv
attribute [local go_sem] Hasher.length_zero
attribute [local go_sem] Try.cpv copyOrV_some
attribute [local go_sem ↓] execOp_index execOp_convert execOp_box execOp_convert9
attribute [local go_sem] index_hex box_run conv_bytes eq31
attribute [local go_sem] build31
def SrcAt (w : World) (B : Nat) (W : World) (s : Sl) (xs : List UInt8) : Prop := xs.length ≤ 70000 ∧ (BytesAt w.heap.size w s.a s.len s.cap xs ∨ OwnB B W (Sl.val s) xs)
structure InsI (w : World) (B : Nat) (W : World) (v : Sl) (L : List Ent) : Prop where
  row : ∃ sl : List Sl, W.ownsRow B 40 1 (Sl.val v) sl.length (sl.map Sl.val) ∧ sl.length = L.length ∧ ∀ (j : Nat) s e, sl[j]? = some s → L[j]? = some e → SrcAt w B W s e.1
def InsS (B : Nat) (W : World) (v : Sl) (L : List Ent) : Prop := W.ownsRow B 31 32 (Sl.val v) L.length (L.flatMap fun e => arr u8v e.2)
theorem row_ty {B : Nat} {W : World} {e : TypeId} {size : Nat} {v : Value} {n : Nat} {xs : List Value} (h : W.ownsRow B e size v n xs) (k : Nat) (hk : v.ownBlock = some k) : B ≤ k ∧ k < W.heap.size ∧ TyAt W k e := row_at h k hk
theorem TyAt.ne {W : World} {c : Nat} {t u : TypeId} (h : TyAt W c t) (hn : t ≠ u) : ¬ TyAt W c u := by
  obtain ⟨c1, f1, h⟩ := h
  rintro ⟨c2, f2, h'⟩
  rw [h] at h'
  injection h' with h'
  injection h' with _ h2 _
  exact hn h2
theorem SrcAt.keep {w : World} {B : Nat} {W W' : World} {s : Sl} {xs : List UInt8} (h : SrcAt w B W s xs) (hk : ∀ c, B ≤ c → c < W.heap.size → TyAt W c 5 → W'.heap[c]? = W.heap[c]?) : SrcAt w B W' s xs := by
  refine ⟨h.1, ?_⟩
  rcases h.2 with h | h
  · exact .inl h
  · refine .inr (h.keep fun k q => ?_)
    obtain ⟨h1, h2, h3⟩ := row_ty h k q
    exact hk k h1 h2 h3
theorem SrcAt.bytes {w : World} {B : Nat} {W : World} {s : Sl} {xs : List UInt8} (h : SrcAt w B W s xs) (he : w.Extends W) : BytesAt W.heap.size W s.a s.len s.cap xs := by
  rcases h.2 with q | q
  · exact q.at_new (fun k hk => he.blk hk) he.size
  · obtain ⟨a, c, e1, e2⟩ := own_bytes q (by have := h.1; omega)
    simp only [Sl.val] at e1
    injection e1 with h1 h2 h3
    rw [h1, h2, h3]
    exact e2
theorem InsI.keep {w : World} {B : Nat} {W W' : World} {v : Sl} {L : List Ent} (h : InsI w B W v L) (hk : ∀ c, B ≤ c → c < W.heap.size → (TyAt W c 40 ∨ TyAt W c 5) → W'.heap[c]? = W.heap[c]?) : InsI w B W' v L := by
  obtain ⟨sl, h1, h2, h3⟩ := h.row
  refine ⟨sl, row_keep h1 fun k q => ?_, h2, fun j s e hs he => (h3 j s e hs he).keep fun c a b t => hk c a b (.inr t)⟩
  obtain ⟨a, b, t⟩ := row_ty h1 k q
  exact hk k a b (.inl t)
theorem InsS.keep {B : Nat} {W W' : World} {v : Sl} {L : List Ent} (h : InsS B W v L) (hk : ∀ c, B ≤ c → c < W.heap.size → TyAt W c 31 → W'.heap[c]? = W.heap[c]?) : InsS B W' v L :=
  row_keep h fun k q => by
    obtain ⟨a, b, t⟩ := row_ty h k q
    exact hk k a b t
theorem InsI.grow {w : World} {B : Nat} {W W' : World} {v : Sl} {L : List Ent} (h : InsI w B W v L) (he : W.Extends W') : InsI w B W' v L := h.keep fun c _ hc _ => he.block c hc
theorem InsS.grow {B : Nat} {W W' : World} {v : Sl} {L : List Ent} (h : InsS B W v L) (he : W.Extends W') : InsS B W' v L := h.keep fun c _ hc _ => he.block c hc
theorem InsI.beside {w : World} {bp : Nat} {W W' : World} {v : Sl} {L : List Ent} (h : InsI w (bp + 1) W v L) (hb : Beside bp W W') : InsI w (bp + 1) W' v L := h.keep fun c h1 h2 h3 => hb c h2 (by omega) (by
  rcases h3 with q | q
  · exact q.not_row (by decide)
  · exact q.not_row (by decide))
theorem InsS.beside {bp : Nat} {W W' : World} {v : Sl} {L : List Ent} (h : InsS (bp + 1) W v L) (hb : Beside bp W W') : InsS (bp + 1) W' v L := h.keep fun c h1 h2 h3 => hb c h2 (by omega) (h3.not_row (by decide))
theorem InsI.nil (w : World) (B : Nat) (W : World) : InsI w B W ⟨none, 0, 0⟩ [] := ⟨[], ⟨rfl, .inl ⟨rfl, rfl⟩⟩, rfl, fun j s e h => by simp at h⟩
theorem InsS.nil (B : Nat) (W : World) : InsS B W ⟨none, 0, 0⟩ [] := ⟨rfl, .inl ⟨rfl, rfl⟩⟩
theorem InsI.len {w : World} {B : Nat} {W : World} {v : Sl} {L : List Ent} (h : InsI w B W v L) : v.len = L.length := by
  obtain ⟨sl, h1, h2, h3⟩ := h.row
  obtain ⟨S, e, hl⟩ := row_val h1
  simp only [Sl.val] at e
  injection e with _ e2 _
  rw [e2, hl, h2]
theorem InsI.at {w : World} {B : Nat} {W : World} {v : Sl} {L : List Ent} (h : InsI w B W v L) (he : w.Extends W) {j : Nat} {e : Ent} (hj : L[j]? = some e) :
    ∃ g c C s, v = ⟨some ⟨g, 0, none⟩, L.length, c⟩ ∧ blk W g = some C ∧ nth C j = some (Sl.val s) ∧ BytesAt W.heap.size W s.a s.len s.cap e.1 := by
  obtain ⟨sl, h1, h2, h3⟩ := h.row
  have hjl : j < L.length := (List.getElem?_eq_some_iff.1 hj).1
  have hsj : sl[j]? = some (sl[j]'(by omega)) := List.getElem?_eq_some_iff.2 ⟨by omega, rfl⟩
  obtain ⟨_, q | ⟨g, cap, cur, e1, e2, e3, e4, e5, e6, e7⟩⟩ := h1
  · exfalso; omega
  refine ⟨g, cap, cur.toList, sl[j]'(by omega), ?_, blk_mk e3, ?_, (h3 j _ e hsj hj).bytes he⟩
  · cases v with
    | mk a l c =>
      simp only [Sl.val] at e1
      injection e1 with q1 q2 q3
      rw [q1, q2, q3, h2]
  · rw [Nat.mul_one] at e7
    have h4 := congrArg (fun l => l[j]?) e7
    simp only [List.getElem?_take, show j < sl.length by omega, if_true, List.getElem?_map, hsj] at h4
    exact h4
theorem InsS.at {B : Nat} {W : World} {v : Sl} {L : List Ent} (h : InsS B W v L) {j : Nat} {e : Ent} (hj : L[j]? = some e) :
    ∃ g c C, v = ⟨some ⟨g, 0, none⟩, L.length, c⟩ ∧ blk W g = some C ∧ j * 32 + 32 ≤ C.length ∧ seg C (j * 32) 32 = arr u8v e.2 := by
  obtain ⟨hjl, hje⟩ := List.getElem?_eq_some_iff.1 hj
  obtain ⟨_, q | ⟨g, cap, cur, e1, e2, e3, e4, e5, e6, e7⟩⟩ := h
  · exfalso; omega
  have hlen : cur.toList.length = cap * 32 := by rw [Array.length_toList]; exact e6
  have hle : L.length * 32 ≤ cap * 32 := Nat.mul_le_mul_right _ e4
  have hj32 : (j + 1) * 32 ≤ L.length * 32 := Nat.mul_le_mul_right _ hjl
  have hs0 := flat_seg (fun e : Ent => arr u8v e.2) 32 (fun e => length_arr _ _) L j hjl
  refine ⟨g, cap, cur.toList, ?_, blk_mk e3, by omega, ?_⟩
  · cases v with
    | mk a l c =>
      simp only [Sl.val] at e1
      injection e1 with q1 q2 q3
      rw [q1, q2, q3]
  · rw [← hje, ← hs0, ← e7]
    unfold seg
    apply List.ext_getElem?
    intro i
    simp only [List.getElem?_take, List.getElem?_drop]
    by_cases hi : i < 32
    · have a2 : j * 32 + i < L.length * 32 := by omega
      simp [hi, a2]
    · simp [hi]
theorem PlayAt.keep {w : World} {bp : Nat} {p : Player} {S : PS} {W W' : World} {r : Option Nat} (h : PlayAt w bp p S W) (hg : W.grownBy W' r) (hr : ∀ c, r = some c → bp < c ∧ ¬ logTy W c) : PlayAt w bp p S W' := by
  have hb := h.base
  have hlt := h.lt
  have hk : ∀ c, c < W.heap.size → (c ≤ bp ∨ logTy W c) → W'.heap[c]? = W.heap[c]? := fun c hc ho => hg.block c hc fun e => by
    obtain ⟨q1, q2⟩ := hr c e.symm
    rcases ho with o | o
    · omega
    · exact q2 o
  obtain ⟨nx, ix, hL⟩ := h.log
  have hbb := hk bp hlt (.inl (Nat.le_refl _))
  refine ⟨(blk_of_heap hbb).trans h.blk, (free_of_heap hbb).trans h.free, h.rh, h.ra, h.pv, h.ls, ⟨nx, ix, hL.side ⟨hg.size, hg.os, hg.tape, hg.output, fun k q _ l => hk k q (.inr l)⟩⟩, h.base, ?_⟩
  exact extends_of h.ext hb hg.os hg.tape hg.output hg.size fun k q1 q2 => hk k q2 (.inl (by omega))
theorem TyAt.no_log {W : World} {c : Nat} {t : TypeId} (h : TyAt W c t) (ht : ¬ (t = 110 ∨ t = 3 ∨ t = 5)) : ¬ logTy W c := h.not_log ht
theorem info40 : ∃ i, Try.prog.info? 40 = some i ∧ i.zero = some (.slice none 0 0) ∧ i.size = 1 ∧ i.bytes = 24 := by
  have hq : (Try.prog.info? 40).map (fun i => (i.zero, i.size, i.bytes)) = some (some (.slice none 0 0), 1, 24) := by kernel_rfl
  cases hx : Try.prog.info? 40 with
  | none => rw [hx] at hq; simp at hq
  | some i =>
    rw [hx] at hq
    simp only [Option.map_some, Option.some.injEq, Prod.mk.injEq] at hq
    exact ⟨i, rfl, hq.1, hq.2.1, hq.2.2⟩
theorem info31 : ∃ i, Try.prog.info? 31 = some i ∧ i.zero = some (.agg (arr u8v (Vector.replicate 32 (0 : UInt8))).toArray) ∧ i.size = 32 ∧ i.bytes = 32 := by
  have hq : (Try.prog.info? 31).map (fun i => (i.zero, i.size, i.bytes)) = some (some (.agg (arr u8v (Vector.replicate 32 (0 : UInt8))).toArray), 32, 32) := by kernel_rfl
  cases hx : Try.prog.info? 31 with
  | none => rw [hx] at hq; simp at hq
  | some i =>
    rw [hx] at hq
    simp only [Option.map_some, Option.some.injEq, Prod.mk.injEq] at hq
    exact ⟨i, rfl, hq.1, hq.2.1, hq.2.2⟩
theorem append57 (w : World) (B : Nat) (S : Sl) (ks : List Sl) (n : Sl) (g : Nat) (hrow : w.ownsRow B 40 1 (Sl.val S) ks.length (ks.map Sl.val)) (hg : blk w g = some [Sl.val n]) (hB : B ≤ w.heap.size) (hk : ks.length ≤ 70000) (ty : TypeId) :
    ∃ (S' : Sl) (w' : World), (Builtin.append_ #[57, 57] ty #[Sl.val S, .slice (some ⟨g, 0, none⟩) 1 1]).run Try.prog w = .ok (Sl.val S') w' ∧ w'.ownsRow B 40 1 (Sl.val S') (ks ++ [n]).length ((ks ++ [n]).map Sl.val) ∧ w.grownBy w' (Sl.val S).ownBlock := by
  obtain ⟨i, hi, hz, hsz, hby⟩ := info40
  have hnews : ∀ j u, [Sl.val n][j]? = some u → w.cell? ((⟨g, 0, none⟩ : Addr).add j) = some u := fun j u hu => by
    rw [add_addr, cell_blk hg, Nat.zero_add]
    exact hu
  obtain ⟨v', w', hr, h1, h2, _⟩ := run_append_own (P := Try.prog) w B 57 ty 40 i _ 1 24 Try.underlying57 hi hz hsz hby rfl (by decide) (Sl.val S) ks.length _ hrow ⟨g, 0, none⟩ 1 1 [Sl.val n] rfl hnews (by simp; rfl) (by simp only [maxLen]; omega) (by omega) hB
  obtain ⟨S', rfl, hSl⟩ := row_val h1
  refine ⟨S', w', hr, ?_, h2⟩
  rw [List.length_append, List.map_append]
  exact h1
theorem append58 (w : World) (B : Nat) (S : Sl) (L : List Ent) (x : Ent) (g : Nat) (hrow : InsS B w S L) (hg : blk w g = some (arr u8v x.2)) (hB : B ≤ w.heap.size) (hn : L.length ≤ 70000) (ty : TypeId) :
    ∃ (S' : Sl) (w' : World), (Builtin.append_ #[58, 58] ty #[Sl.val S, .slice (some ⟨g, 0, none⟩) 1 1]).run Try.prog w = .ok (Sl.val S') w' ∧ InsS B w' S' (L ++ [x]) ∧ w.grownBy w' (Sl.val S).ownBlock := by
  obtain ⟨i, hi, hz, hsz, hby⟩ := info31
  have hnews : ∀ j u, (arr u8v x.2)[j]? = some u → w.cell? ((⟨g, 0, none⟩ : Addr).add j) = some u := fun j u hu => by
    rw [add_addr, cell_blk hg, Nat.zero_add]
    exact hu
  have hone : ∀ u ∈ arr u8v x.2, u.oneCell' = true := fun u hu => by
    unfold arr at hu
    obtain ⟨y, _, rfl⟩ := List.mem_map.1 hu
    rfl
  have hll : (arr u8v x.2).length = 1 * 32 := length_arr _ _
  have hzc : (Value.agg (arr u8v (Vector.replicate 32 (0 : UInt8))).toArray).cells.size = 32 := by simp [Value.cells, length_arr]
  obtain ⟨v', w', hr, h1, h2, _⟩ := run_append_own (P := Try.prog) w B 58 ty 31 i _ 32 32 Try.underlying58 hi hz hsz hby hzc (by decide) (Sl.val S) L.length _ hrow ⟨g, 0, none⟩ 1 1 (arr u8v x.2) hll hnews hone (by simp only [maxLen]; omega) (by omega) hB
  obtain ⟨S', rfl, hSl⟩ := row_val h1
  refine ⟨S', w', hr, ?_, h2⟩
  unfold InsS
  rw [List.length_append, List.flatMap_append]
  simpa using h1
theorem app57 {w : World} {bp : Nat} {p : Player} {S : PS} {W : World} {vi vs : Sl} {L : List Ent} {s : Sl} {g : Nat} (x : Ent) (hP : PlayAt w bp p S W) (hI : InsI w (bp + 1) W vi L) (hS : InsS (bp + 1) W vs L) (hg : blk W g = some [Sl.val s]) (hx : SrcAt w (bp + 1) W s x.1) (hn : L.length ≤ 70000) (ty : TypeId) :
    ∃ (vi' : Sl) (W' : World), (Builtin.append_ #[57, 57] ty #[Sl.val vi, .slice (some ⟨g, 0, none⟩) 1 1]).run Try.prog W = .ok (Sl.val vi') W' ∧ PlayAt w bp p S W' ∧ InsI w (bp + 1) W' vi' (L ++ [x]) ∧ InsS (bp + 1) W' vs L ∧ W.heap.size ≤ W'.heap.size ∧ ∀ c, c < W.heap.size → ¬ TyAt W c 40 → W'.heap[c]? = W.heap[c]? := by
  obtain ⟨sl, h1, h2, h3⟩ := hI.row
  obtain ⟨vi', W', hr, h4, h5⟩ := append57 W (bp + 1) vi sl s g h1 hg hP.lt (by omega) ty
  have hk : ∀ c, c < W.heap.size → ¬ TyAt W c 40 → W'.heap[c]? = W.heap[c]? := fun c hc ht => h5.block c hc fun e => ht (row_ty h1 c e.symm).2.2
  have hk5 : ∀ c, bp + 1 ≤ c → c < W.heap.size → TyAt W c 5 → W'.heap[c]? = W.heap[c]? := fun c _ hc ht => hk c hc (ht.ne (by decide))
  refine ⟨vi', W', hr, hP.keep h5 (fun c e => ⟨(row_ty h1 c e).1, (row_ty h1 c e).2.2.not_log (by decide)⟩), ⟨sl ++ [s], h4, by simp [h2], ?_⟩, hS.keep fun c _ hc ht => hk c hc (ht.ne (by decide)), h5.size, hk⟩
  intro j s' e hs he
  by_cases hj : j < L.length
  · rw [List.getElem?_append_left (by omega)] at hs
    rw [List.getElem?_append_left hj] at he
    exact (h3 j s' e hs he).keep hk5
  · have hj2 : j < L.length + 1 := by
      have := (List.getElem?_eq_some_iff.1 he).1
      simpa using this
    obtain rfl : j = L.length := by omega
    rw [← h2, List.getElem?_append_right (Nat.le_refl _), Nat.sub_self] at hs
    rw [List.getElem?_append_right (Nat.le_refl _), Nat.sub_self] at he
    obtain rfl := Option.some.inj hs
    obtain rfl := Option.some.inj he
    exact hx.keep hk5
theorem app58 {w : World} {bp : Nat} {p : Player} {S : PS} {W : World} {vi vs : Sl} {L M : List Ent} {g : Nat} (x : Ent) (hP : PlayAt w bp p S W) (hI : InsI w (bp + 1) W vi M) (hS : InsS (bp + 1) W vs L) (hg : blk W g = some (arr u8v x.2)) (hn : L.length ≤ 70000) (ty : TypeId) :
    ∃ (vs' : Sl) (W' : World), (Builtin.append_ #[58, 58] ty #[Sl.val vs, .slice (some ⟨g, 0, none⟩) 1 1]).run Try.prog W = .ok (Sl.val vs') W' ∧ PlayAt w bp p S W' ∧ InsI w (bp + 1) W' vi M ∧ InsS (bp + 1) W' vs' (L ++ [x]) := by
  obtain ⟨vs', W', hr, h4, h5⟩ := append58 W (bp + 1) vs L x g hS hg hP.lt hn ty
  have hk : ∀ c, c < W.heap.size → ¬ TyAt W c 31 → W'.heap[c]? = W.heap[c]? := fun c hc ht => h5.block c hc fun e => ht (row_ty hS c e.symm).2.2
  exact ⟨vs', W', hr, hP.keep h5 (fun c e => ⟨(row_ty hS c e).1, (row_ty hS c e).2.2.not_log (by decide)⟩), hI.keep fun c _ hc ht => hk c hc (by rcases ht with t | t <;> exact t.ne (by decide)), h4⟩
theorem wpList_append_run {w : World} {ops : Array Oper} {rest : List Oper} {o : Oper} {a : Act} {Q : Exit → Act → World → Prop} (hgd : o.guard = none) (s x : Operand) (t : TypeId)
    (ho : o.op = .call { callee := .builtin .append, args := #[s, x], argTypes := #[t, t] }) (v u v' : Value) (w' : World) (hs : a.eval s = v) (hx : a.eval x = u) (hr : (Builtin.append_ #[t, t] o.type #[v, u]).run Try.prog w = .ok v' w')
    (hK : wpList Try.prog ops Q rest (a.put o.dst v') w') : wpList Try.prog ops Q (o :: rest) a w := by
  refine wpList_plain hgd fun K hK' => ?_
  unfold Oper.wp
  simp [execOp, ho, resolve, invoke, builtin, hs, hx, hr, Result.andThen]
  exact hK' _ _ hK
theorem bslice57 (w : World) (a : Option Addr) (l c : Nat) : (bsliceOp 57 1 #[(0, .slice a l c)]).run Try.prog w = .ok (.value (.slice (some ⟨w.heap.size, 0, none⟩) 1 1)) (w.alloc (.cells #[.slice a l c] 40)) := by kernel_rfl
set_option maxRecDepth 100000 in
theorem bslice58_lit (w : World) (x0 x1 x2 x3 x4 x5 x6 x7 x8 x9 x10 x11 x12 x13 x14 x15 x16 x17 x18 x19 x20 x21 x22 x23 x24 x25 x26 x27 x28 x29 x30 x31 : Value) : (bsliceOp 58 1 #[(0, .agg #[x0, x1, x2, x3, x4, x5, x6, x7, x8, x9, x10, x11, x12, x13, x14, x15, x16, x17, x18, x19, x20, x21, x22, x23, x24, x25, x26, x27, x28, x29, x30, x31])]).run Try.prog w = .ok (.value (.slice (some ⟨w.heap.size, 0, none⟩) 1 1)) (w.alloc (.cells #[x0, x1, x2, x3, x4, x5, x6, x7, x8, x9, x10, x11, x12, x13, x14, x15, x16, x17, x18, x19, x20, x21, x22, x23, x24, x25, x26, x27, x28, x29, x30, x31] 31)) := by kernel_rfl
theorem bslice58 (w : World) (d : Vector UInt8 32) : (bsliceOp 58 1 #[(0, .agg (arr u8v d).toArray)]).run Try.prog w = .ok (.value (.slice (some ⟨w.heap.size, 0, none⟩) 1 1)) (w.alloc (.cells (arr u8v d).toArray 31)) := by
  have hL : (arr u8v d).length = 32 := length_arr _ _
  generalize arr u8v d = L at hL
  obtain ⟨x0, L0, rfl, hL0⟩ := split1 _ _ hL
  obtain ⟨x1, L1, rfl, hL1⟩ := split1 _ _ hL0
  obtain ⟨x2, L2, rfl, hL2⟩ := split1 _ _ hL1
  obtain ⟨x3, L3, rfl, hL3⟩ := split1 _ _ hL2
  obtain ⟨x4, L4, rfl, hL4⟩ := split1 _ _ hL3
  obtain ⟨x5, L5, rfl, hL5⟩ := split1 _ _ hL4
  obtain ⟨x6, L6, rfl, hL6⟩ := split1 _ _ hL5
  obtain ⟨x7, L7, rfl, hL7⟩ := split1 _ _ hL6
  obtain ⟨x8, L8, rfl, hL8⟩ := split1 _ _ hL7
  obtain ⟨x9, L9, rfl, hL9⟩ := split1 _ _ hL8
  obtain ⟨x10, L10, rfl, hL10⟩ := split1 _ _ hL9
  obtain ⟨x11, L11, rfl, hL11⟩ := split1 _ _ hL10
  obtain ⟨x12, L12, rfl, hL12⟩ := split1 _ _ hL11
  obtain ⟨x13, L13, rfl, hL13⟩ := split1 _ _ hL12
  obtain ⟨x14, L14, rfl, hL14⟩ := split1 _ _ hL13
  obtain ⟨x15, L15, rfl, hL15⟩ := split1 _ _ hL14
  obtain ⟨x16, L16, rfl, hL16⟩ := split1 _ _ hL15
  obtain ⟨x17, L17, rfl, hL17⟩ := split1 _ _ hL16
  obtain ⟨x18, L18, rfl, hL18⟩ := split1 _ _ hL17
  obtain ⟨x19, L19, rfl, hL19⟩ := split1 _ _ hL18
  obtain ⟨x20, L20, rfl, hL20⟩ := split1 _ _ hL19
  obtain ⟨x21, L21, rfl, hL21⟩ := split1 _ _ hL20
  obtain ⟨x22, L22, rfl, hL22⟩ := split1 _ _ hL21
  obtain ⟨x23, L23, rfl, hL23⟩ := split1 _ _ hL22
  obtain ⟨x24, L24, rfl, hL24⟩ := split1 _ _ hL23
  obtain ⟨x25, L25, rfl, hL25⟩ := split1 _ _ hL24
  obtain ⟨x26, L26, rfl, hL26⟩ := split1 _ _ hL25
  obtain ⟨x27, L27, rfl, hL27⟩ := split1 _ _ hL26
  obtain ⟨x28, L28, rfl, hL28⟩ := split1 _ _ hL27
  obtain ⟨x29, L29, rfl, hL29⟩ := split1 _ _ hL28
  obtain ⟨x30, L30, rfl, hL30⟩ := split1 _ _ hL29
  obtain ⟨x31, L31, rfl, hL31⟩ := split1 _ _ hL30
  obtain rfl := List.eq_nil_of_length_eq_zero hL31
  exact bslice58_lit w x0 x1 x2 x3 x4 x5 x6 x7 x8 x9 x10 x11 x12 x13 x14 x15 x16 x17 x18 x19 x20 x21 x22 x23 x24 x25 x26 x27 x28 x29 x30 x31
theorem _root_.Go.Blk.Ext.drewN {w W : World} (h : Ext w W) (n : Nat) : Ext w (W.drewN n) := by obtain ⟨G, m, rfl⟩ := h; exact ⟨G, m + n, by simp [World.drewN, Blk.ext, Nat.add_assoc]⟩
end Go.Proofs.Qxb6500785a
