import Derived.Test.Qxb6500789aXl
import Derived.StillTailTactics
import Derived.Deep.QuietTactic
import Derived.BigQuiet
import Derived.Deep.RegionHeld
import Derived.Deep.CutRange
import Derived.Laws.ResultCell
import Derived.Laws.Rows
import Derived.DeepKeys
import Derived.DataBytes
import Derived.Laws.StructEq
import Derived.Laws.AppendOwn
import Derived.Laws.MakeOwn
import Derived.Lib.AppendStr
set_option linter.unusedSimpArgs false
set_option linter.unusedVariables false
namespace Go.Proofs.Qxb6500789a
open Go.RowKit Go.Blk
attribute [local go_sem ↓] execOp_load execOp_store execOp_alloc
attribute [local go_sem] Try.ld29 Try.st29 Try.ld3 Try.st3 Try.ld9 Try.st9 Try.ld30 Try.st30 Try.ld34 Try.st34 Try.ld35 Try.st35 Try.ld36 Try.st36 Try.ld37 Try.st37 Try.ld44 Try.st44 Try.ld45 Try.st45 Try.ld54 Try.st54 Try.ld55 Try.st55 Try.ld74 Try.st74 Try.ld80 Try.st80 Try.ld84 Try.st84 Try.ld106 Try.st106 Try.ld107 Try.st107 Try.ld4 Try.st4 Try.ld121 Try.st121 Try.ld2 Try.st2 Try.ld5 Try.st5 Try.ld12 Try.st12 Try.ld21 Try.st21 Try.ld22 Try.st22 Try.ld24 Try.st24 Try.ld26 Try.st26 Try.ld63 Try.st63 Try.ld71 Try.st71 Try.ld103 Try.st103 Try.ld130 Try.st130 Try.ld133 Try.st133 Try.ld140 Try.st140 Try.ld152 Try.st152 Try.ld39 Try.st39 Try.ld32 Try.st32 Try.ld41 Try.st41 Try.ld47 Try.st47 Try.ld57 Try.st57 Try.ld62 Try.st62 Try.ld76 Try.st76 Try.ld82 Try.st82 Try.ld86 Try.st86 Try.ld109 Try.st109 Try.ld115 Try.st115 Try.ld123 Try.st123 Try.ld135 Try.st135 Try.al39 Try.al32 Try.al41 Try.al47 Try.al57 Try.al62 Try.al76 Try.al82 Try.al86 Try.al109 Try.al115 Try.al123 Try.al135
attribute [local go_sem] Answer.length_enc Answer.ok_enc Answer.all_get Answer.all_set Answer.code_get Answer.code_set Answer.n_get Answer.n_set Answer.name_get Answer.name_set Answer.rows_get Answer.rows_set GOp.length_enc GOp.ok_enc GOp.all_get GOp.all_set GOp.kind_get GOp.kind_set GOp.rel_get GOp.rel_set GOp.mask_get GOp.mask_set GOp.t_get GOp.t_set GOp.n_get GOp.n_set GOp.name_get GOp.name_set Store.length_enc Store.ok_enc Store.all_get Store.all_set Store.names_get Store.names_set Store.rels_get Store.rels_set GRel.length_enc GRel.ok_enc GRel.all_get GRel.all_set GRel.arity_get GRel.arity_set GRel.masks_get GRel.masks_set GRel.rows_get GRel.rows_set Row.length_enc Row.ok_enc Row.all_get Row.all_set Row.t_get Row.t_set Row.mark_get Row.mark_set View.length_enc View.ok_enc View.all_get View.all_set View.names_get View.names_set View.rels_get View.rels_set Symtab.length_enc Symtab.ok_enc Symtab.all_get Symtab.all_set Symtab.names_get Symtab.names_set Symtab.table_get Symtab.table_set StoreTuplestore.length_enc StoreTuplestore.ok_enc StoreTuplestore.all_get StoreTuplestore.all_set StoreTuplestore.syms_get StoreTuplestore.syms_set StoreTuplestore.rels_get StoreTuplestore.rels_set StoreTuplestore.syms_names_get StoreTuplestore.syms_names_set StoreTuplestore.syms_table_get StoreTuplestore.syms_table_set Relation.length_enc Relation.ok_enc Relation.all_get Relation.all_set Relation.arity_get Relation.arity_set Relation.slots_get Relation.slots_set Relation.live_get Relation.live_set Relation.idx_get Relation.idx_set Slot.length_enc Slot.ok_enc Slot.all_get Slot.all_set Slot.t_get Slot.t_set Slot.mark_get Slot.mark_set Slot.live_get Slot.live_set RelView.length_enc RelView.ok_enc RelView.all_get RelView.all_set RelView.arity_get RelView.arity_set RelView.rows_get RelView.rows_set RelView.marks_get RelView.marks_set RelView.indexed_get RelView.indexed_set Index.length_enc Index.ok_enc Index.all_get Index.all_set Index.mask_get Index.mask_set Index.heads_get Index.heads_set Index.next_get Index.next_set
attribute [local go_sem] size_put size_ext blk_put free_put blk_alloc free_alloc blk_drew free_drew blk_ext free_ext lookOr_some putOr_some segAt_some cellAt_some storeIn_some put_put put_alloc_new length_arr ok_arr_u8 ok_arr_u32 ok_arr_u64 ok_arr_i64 ok_arr_sl cellsV_agg cellsV_int cellsV_bool cellsV_string cellsV_pointer cellsV_slice cellsV_sl ok_int ok_bool ok_string ok_pointer ok_slice ok_sl toList_arr seg_arr set_arr nth_splice nth_splice0 seg_splice seg_splice0 splice_splice splice_splice0 length_splice_if
attribute [local go_sem ↓] execOp_box
attribute [local go_sem] box_run nth_arr_u8 put_arr_u8 blk_drewN free_drewN put_drewN blk_raw free_raw
/-- The symbol table's cells fit the names. -/
structure TInv (names : List (List UInt8)) (T : List Nat) : Prop where
  pow : ∃ j, T.length = 2 ^ j ∧ 4 ≤ j ∧ j ≤ 20
  val : ∀ v ∈ T, v ≤ names.length
  cnt : (T.filter (fun v => decide (v ≠ 0))).length ≤ names.length
  half : 2 * names.length ≤ T.length
  path : ∀ n nm, names[n]? = some nm → ∃ d, T[(hsN nm + d) % T.length]? = some (n + 1) ∧ ∀ d', d' < d → ∃ v, T[(hsN nm + d') % T.length]? = some v ∧ v ≠ 0
  nodup : names.Nodup
theorem TInv.pos {names : List (List UInt8)} {T : List Nat} (h : TInv names T) : 16 ≤ T.length ∧ T.length ≤ 1048576 := by
  obtain ⟨j, h1, h2, h3⟩ := h.pow
  rw [h1]
  exact ⟨Nat.pow_le_pow_right (n := 2) (by decide) h2, Nat.pow_le_pow_right (n := 2) (by decide) h3⟩
theorem zero_of_filter : ∀ {T : List Nat}, (T.filter (fun v => decide (v ≠ 0))).length < T.length → ∃ p : Nat, T[p]? = some 0
  | [], h => by simp at h
  | x :: T, h => by
    by_cases hx : x = 0
    · exact ⟨0, by simp [hx]⟩
    · rw [List.filter_cons_of_pos (by simpa using hx), List.length_cons, List.length_cons] at h
      obtain ⟨p, hp⟩ := zero_of_filter (T := T) (by omega)
      exact ⟨p + 1, by simpa using hp⟩
theorem TInv.zero {names : List (List UInt8)} {T : List Nat} (h : TInv names T) (nm : List UInt8) : ∃ d, T[(hsN nm + d) % T.length]? = some 0 := by
  have hp := h.pos
  obtain ⟨p, hp0⟩ := zero_of_filter (T := T) (by have := h.cnt; have := h.half; omega)
  have hpl : p < T.length := (List.getElem?_eq_some_iff.1 hp0).1
  refine ⟨p + T.length - hsN nm % T.length, ?_⟩
  have hm := Nat.mod_lt (hsN nm) (show 0 < T.length by omega)
  have e : (hsN nm + (p + T.length - hsN nm % T.length)) % T.length = p := by
    have h1 : hsN nm + (p + T.length - hsN nm % T.length) = (p + T.length) + T.length * (hsN nm / T.length) := by
      have := Nat.mod_add_div (hsN nm) T.length
      omega
    rw [h1, Nat.add_mul_mod_self_left, Nat.add_mod_right, Nat.mod_eq_of_lt hpl]
  rw [e]; exact hp0
theorem seek_found {names : List (List UInt8)} {T : List Nat} {nm : List UInt8} {p : Nat} (h : TInv names T) (hs : SeekP names T nm p) : (∃ n, names[n]? = some nm ∧ T[p]? = some (n + 1)) ∨ (nm ∉ names ∧ T[p]? = some 0) := by
  obtain ⟨d, hp, hat, v, hv, hv2⟩ := hs
  by_cases h0 : v = 0
  · subst h0
    refine .inr ⟨fun hm => ?_, hv⟩
    obtain ⟨n, hn⟩ := List.mem_iff_getElem?.1 hm
    obtain ⟨d1, h1, h2⟩ := h.path n nm hn
    rcases Nat.lt_trichotomy d d1 with hd | hd | hd
    · obtain ⟨v', e1, e2⟩ := h2 d hd
      rw [← hp, hv] at e1
      exact e2 (Option.some.inj e1).symm
    · subst hd
      rw [← hp, hv] at h1
      exact absurd (Option.some.inj h1) (by omega)
    · obtain ⟨v', e1, e2, e3⟩ := hat d1 hd
      rw [h1] at e1
      obtain rfl := Option.some.inj e1
      exact e3 hn
  · rcases hv2 with hv2 | hv2
    · exact absurd hv2 h0
    · exact .inl ⟨v - 1, hv2, by rw [hv]; congr 1; omega⟩
theorem set_filter {T : List Nat} {p x : Nat} (hp : T[p]? = some 0) (hx : x ≠ 0) : ((T.set p x).filter (fun v => decide (v ≠ 0))).length = (T.filter (fun v => decide (v ≠ 0))).length + 1 := by
  induction T generalizing p with
  | nil => simp at hp
  | cons y T ih =>
    cases p with
    | zero =>
      obtain rfl : y = 0 := by simpa using hp
      rw [List.set_cons_zero, List.filter_cons_of_pos (by simpa using hx), List.filter_cons_of_neg (by simp)]; rfl
    | succ p =>
      have := ih (p := p) (by simpa using hp)
      rw [List.set_cons_succ]
      by_cases hy : y = 0
      · rw [List.filter_cons_of_neg (by simp [hy]), List.filter_cons_of_neg (by simp [hy])]; exact this
      · rw [List.filter_cons_of_pos (by simpa using hy), List.filter_cons_of_pos (by simpa using hy), List.length_cons, List.length_cons, this]
theorem tinv_add {names : List (List UInt8)} {T : List Nat} {nm : List UInt8} {p : Nat} (h : TInv names T) (hs : SeekP names T nm p) (hm : nm ∉ names) (h0 : T[p]? = some 0) (hh : 2 * (names.length + 1) ≤ T.length) : TInv (names ++ [nm]) (T.set p (names.length + 1)) := by
  have hpl : p < T.length := (List.getElem?_eq_some_iff.1 h0).1
  have hset : ∀ q v, T[q]? = some v → v ≠ 0 → (T.set p (names.length + 1))[q]? = some v := fun q v hq hv => by
    rw [List.getElem?_set]
    by_cases e : p = q
    · subst e; rw [h0] at hq; exact absurd (Option.some.inj hq).symm hv
    · rw [if_neg e]; exact hq
  refine ⟨by rw [List.length_set]; exact h.pow, fun v hv => ?_, ?_, by rw [List.length_set, List.length_append, List.length_singleton]; exact hh, fun n x hx => ?_, ?_⟩
  · rw [List.length_append, List.length_singleton]
    rcases List.mem_or_eq_of_mem_set hv with h1 | h1
    · have := h.val v h1; omega
    · omega
  · rw [set_filter h0 (by omega), List.length_append, List.length_singleton]
    have := h.cnt
    omega
  · rw [List.length_set]
    by_cases hn : n < names.length
    · rw [List.getElem?_append_left hn] at hx
      obtain ⟨d, h1, h2⟩ := h.path n x hx
      refine ⟨d, hset _ _ h1 (by omega), fun d' hd' => ?_⟩
      obtain ⟨v, e1, e2⟩ := h2 d' hd'
      exact ⟨v, hset _ _ e1 e2, e2⟩
    · have hn1 : n = names.length := by
        have := (List.getElem?_eq_some_iff.1 hx).1
        rw [List.length_append, List.length_singleton] at this; omega
      subst hn1
      rw [List.getElem?_append_right (Nat.le_refl _), Nat.sub_self] at hx
      obtain rfl : nm = x := by simpa using hx
      obtain ⟨d, hp, hat, _⟩ := hs
      refine ⟨d, by rw [← hp, List.getElem?_set, if_pos rfl, if_pos hpl], fun d' hd' => ?_⟩
      obtain ⟨v, e1, e2, _⟩ := hat d' hd'
      exact ⟨v, hset _ _ e1 e2, e2⟩
  · rw [List.nodup_append]
    exact ⟨h.nodup, by simp, fun a ha b hb => by rw [List.mem_singleton.1 hb]; intro e; exact hm (e ▸ ha)⟩
theorem SeekP.take {names : List (List UInt8)} {T : List Nat} {nm : List UInt8} {p m : Nat} (hs : SeekP names T nm p) (hv : ∀ v ∈ T, v ≤ m) : SeekP (names.take m) T nm p := by
  obtain ⟨d, hp, hat, v, h1, h2⟩ := hs
  have ht : ∀ v, v ∈ T → v ≠ 0 → (names.take m)[v - 1]? = names[v - 1]? := fun v hv' h0 => by rw [List.getElem?_take, if_pos (by have := hv v hv'; omega)]
  refine ⟨d, hp, fun d' hd' => ?_, v, h1, ?_⟩
  · obtain ⟨v', e1, e2, e3⟩ := hat d' hd'
    exact ⟨v', e1, e2, by rw [ht v' (List.mem_of_getElem? e1) e2]; exact e3⟩
  · rcases h2 with h2 | h2
    · exact .inl h2
    · by_cases h0 : v = 0
      · exact .inl h0
      · exact .inr (by rw [ht v (List.mem_of_getElem? h1) h0]; exact h2)
theorem tinv_nil (j : Nat) (h4 : 4 ≤ j) (h20 : j ≤ 20) : TInv [] (List.replicate (2 ^ j) 0) := by
  refine ⟨⟨j, by simp, h4, h20⟩, fun v hv => by rw [List.eq_of_mem_replicate hv]; exact Nat.zero_le _, ?_, by simp, fun n nm h => by simp at h, List.nodup_nil⟩
  rw [List.filter_eq_nil_iff.2 (fun v hv => by rw [List.eq_of_mem_replicate hv]; simp)]
  exact Nat.le_refl _
/-- The number of a name. -/
def lookF (names : List (List UInt8)) (nm : List UInt8) : Option Nat := if nm ∈ names then some (names.idxOf nm) else none
theorem lookF_at {names : List (List UInt8)} {nm : List UInt8} {n : Nat} (hd : names.Nodup) (h : names[n]? = some nm) : lookF names nm = some n := by
  unfold lookF
  rw [if_pos (List.mem_of_getElem? h)]
  obtain ⟨hn, rfl⟩ := List.getElem?_eq_some_iff.1 h
  rw [hd.idxOf_getElem]
theorem lookF_none {names : List (List UInt8)} {nm : List UInt8} (h : nm ∉ names) : lookF names nm = none := if_neg h
def lookV : Option Nat → Value
  | some n => .tuple #[.int .i64 (n : Int), .bool true]
  | none => .tuple #[.int .i64 (-1), .bool false]
attribute [local go_sem] st_len st0 st1 st2 st_set0 st_set1 st_set2
set_option maxRecDepth 20000 in
set_option maxHeartbeats 2000000 in
theorem lookup_any (W : World) (bs : Nat) (na : Option Addr) (nn nc : Nat) (ta : Option Addr) (tn tc : Nat) (ra : Option Addr) (rn rc : Nat) (names : List (List UInt8)) (T : List Nat) (nm : List UInt8) (hb : blk W bs = some (stE na nn nc ta tn tc ra rn rc)) (hNm : Rw encS 1 W na nn names) (hT : Rw encK 1 W ta tn T) (hI : TInv names T) (hl : nm.length ≤ 1000000) :
    Calls Try.prog 66 #[.pointer (some ⟨bs, 0, none⟩), .string ⟨nm.toArray⟩] W fun e W' => e = .returned (lookV (lookF names nm)) ∧ ∃ k, W' = W.drewN k := by
  have HN : Hid (Rw encS 1 W na nn names) := hNm
  have HT : Hid (Rw encK 1 W ta tn T) := hT
  have HI : Hid (TInv names T) := hI
  have hTl := hT.1
  have hpos := hI.pos
  obtain ⟨hp16, hp20⟩ := hpos
  have htn : 16 ≤ tn ∧ tn ≤ 1048576 := by omega
  have hnn : nn ≤ 1000000 := by have := hNm.1; have := hI.half; omega
  obtain ⟨h16, h20⟩ := htn
  have HTL : Hid (T.length = tn) := hTl
  obtain ⟨s, hs⟩ : ∃ s : ByteArray, s = ⟨nm.toArray⟩ := ⟨_, rfl⟩
  have HS : Hid (s = ⟨nm.toArray⟩) := hs
  obtain ⟨bt, Ct, hta, hCt⟩ : ∃ bt Ct, ta = some ⟨bt, 0, none⟩ ∧ blk W bt = some Ct := by
    obtain ⟨x, b, C, _, h1, h2, _⟩ := hT.at (i := 0) (by omega)
    exact ⟨b, C, h1, h2⟩
  subst hta
  rw [← hs]
  obtain ⟨R, hR⟩ : ∃ R, R = lookF names nm := ⟨_, rfl⟩
  rw [← hR]
  have HR : Hid (R = lookF names nm) := hR
  clear hNm hT hI hTl hs hp16 hp20 hR
  go_enter Try.func66, Try.ntmps66
  repeat go_step
  refine wp_region_held_drew (S := fun W' => blk W' bs = some (stE na nn nc (some ⟨bt, 0, none⟩) tn tc ra rn rc) ∧ blk W' bt = some Ct) (by kernel_rfl) ⟨hb, hCt⟩ (fun hHeld => ?_)
  refine wpAnyH_take (i := 0) (oi := ⟨_, _, _, _, _, _⟩) (v := ?_) rfl (by kernel_rfl) (by kernel_rfl) (by kernel_rfl) (fun _ _ _ h => h) (Or.inl ⟨by rfl, ?_⟩) (by assumption) ?_
  rotate_left 1
  · intro W' hSw
    obtain ⟨hS1, hS2⟩ := hSw
    go_simp
    try with_reducible rfl
  try simp only [Act.put, List.setIfInBounds_toArray, List.set_cons_zero, List.set_cons_succ]
  refine wpAnyH_take (i := 1) (oi := ⟨_, _, _, _, _, _⟩) (v := ?_) rfl (by kernel_rfl) (by kernel_rfl) (by kernel_rfl) (fun _ _ _ h => h) (Or.inl ⟨by rfl, ?_⟩) (by assumption) ?_
  rotate_left 1
  · intro W' hSw
    obtain ⟨hS1, hS2⟩ := hSw
    go_simp
    try with_reducible rfl
  try simp only [Act.put, List.setIfInBounds_toArray, List.set_cons_zero, List.set_cons_succ]
  refine wpAnyH_take (i := 2) (oi := ⟨_, _, _, _, _, _⟩) (v := ?_) rfl (by kernel_rfl) (by kernel_rfl) (by kernel_rfl) (fun _ _ _ h => h) (Or.inl ⟨by rfl, ?_⟩) (by assumption) ?_
  rotate_left 1
  · intro W' hSw
    obtain ⟨hS1, hS2⟩ := hSw
    go_simp
    try with_reducible rfl
  try simp only [Act.put, List.setIfInBounds_toArray, List.set_cons_zero, List.set_cons_succ]
  refine wpAnyH_take (i := 3) (oi := ⟨_, _, _, _, _, _⟩) (v := ?_) rfl (by kernel_rfl) (by kernel_rfl) (by kernel_rfl) (fun _ _ _ h => h) (Or.inl ⟨by rfl, ?_⟩) (by assumption) ?_
  rotate_left 1
  · intro W' hSw
    obtain ⟨hS1, hS2⟩ := hSw
    go_simp
    try with_reducible rfl
  try simp only [Act.put, List.setIfInBounds_toArray, List.set_cons_zero, List.set_cons_succ]
  refine wpAnyH_take (i := 4) (oi := ⟨_, _, _, _, _, _⟩) (v := ?_) rfl (by kernel_rfl) (by kernel_rfl) (by kernel_rfl) (fun _ _ _ h => h) (Or.inl ⟨by rfl, ?_⟩) (by assumption) ?_
  rotate_left 1
  · intro W' hSw
    obtain ⟨hS1, hS2⟩ := hSw
    go_simp
    try with_reducible rfl
  try simp only [Act.put, List.setIfInBounds_toArray, List.set_cons_zero, List.set_cons_succ]
  refine wpAnyH_take (i := 5) (oi := ⟨_, _, _, _, _, _⟩) (v := ?_) rfl (by kernel_rfl) (by kernel_rfl) (by kernel_rfl) (fun _ _ _ h => h) (Or.inl ⟨by rfl, ?_⟩) (by assumption) ?_
  rotate_left 1
  · intro W' hSw
    obtain ⟨hS1, hS2⟩ := hSw
    go_simp
    try with_reducible rfl
  try simp only [Act.put, List.setIfInBounds_toArray, List.set_cons_zero, List.set_cons_succ]
  refine wpAnyH_ready (rs := [6]) (by kernel_rfl) (by simp) ?_
  refine AllReadyH.cons (o := ⟨_, _, _, _, _, _⟩) rfl (fun K' hK => ?_) AllReadyH.nil
  go_simp
  rw [HS.out]
  refine (seek_any W.drew bs na nn nc (some ⟨bt, 0, none⟩) tn tc ra rn rc names T nm hb HN.out HT.out (Classical.choose HI.out.pow) (by rw [← HTL.out]; exact (Classical.choose_spec HI.out.pow).1) (Classical.choose_spec HI.out.pow).2.2 (Classical.choose_spec HI.out.pow).2.1 HI.out.val (by rw [← HTL.out]; exact HI.out.zero nm) hl hnn).mono ?_
  rintro e W1 ⟨⟨p, rfl, hsp⟩, k1, rfl⟩
  have hpl : p < tn := by
    obtain ⟨d, hp, _⟩ := hsp
    rw [hp, HTL.out]; exact Nat.mod_lt _ (by omega)
  obtain ⟨v, hv⟩ : ∃ v, T[p]? = some v := ⟨_, List.getElem?_eq_getElem (by rw [HTL.out]; exact hpl)⟩
  obtain ⟨b', C', z1, z2, hct, _, ut⟩ := rw_cell (v := .int .i64 (v : Int)) HT.out hv rfl
  injection z1 with z1; injection z1 with z1
  subst z1
  obtain rfl := Option.some.inj (z2.symm.trans hCt)
  have HF : Hid ((∃ n : Nat, v = n + 1 ∧ R = some n ∧ n ≤ 1000000) ∨ (v = 0 ∧ R = none)) := by
    show _ ∨ _
    rw [HR.out]
    rcases seek_found HI.out hsp with ⟨n, f1, f2⟩ | ⟨f1, f2⟩
    · rw [hv] at f2
      have : n < names.length := (List.getElem?_eq_some_iff.1 f1).1
      have hh := HI.out.half
      have := HTL.out
      exact .inl ⟨n, Option.some.inj f2, lookF_at HI.out.nodup f1, by omega⟩
    · rw [hv] at f2
      exact .inr ⟨Option.some.inj f2, lookF_none f1⟩
  clear hsp hv z2
  dsimp only
  refine hK.out _ _ ⟨hb, hCt⟩ (fun hHeld => ?_)
  clear hK K'
  try simp only [Act.put, List.setIfInBounds_toArray, List.set_cons_zero, List.set_cons_succ]
  have q0 : (0 : Int) ≤ (p : Int) := by omega
  have q1 : (p : Int) < (tn : Int) := by omega
  have q2 : ((p : Int)).toNat = p := by omega
  refine wpAnyH_take (i := 7) (oi := ⟨_, _, _, _, _, _⟩) (v := ?_) rfl (by kernel_rfl) (by kernel_rfl) (by kernel_rfl) (fun _ _ _ h => h) (Or.inl ⟨by rfl, ?_⟩) (by assumption) ?_
  rotate_left 1
  · intro W' hSw
    obtain ⟨hS1, hS2⟩ := hSw
    go_simp
    try with_reducible rfl
  try simp only [Act.put, List.setIfInBounds_toArray, List.set_cons_zero, List.set_cons_succ]
  refine wpAnyH_take (i := 8) (oi := ⟨_, _, _, _, _, _⟩) (v := ?_) rfl (by kernel_rfl) (by kernel_rfl) (by kernel_rfl) (fun _ _ _ h => h) (Or.inl ⟨by rfl, ?_⟩) (by assumption) ?_
  rotate_left 1
  · intro W' hSw
    obtain ⟨hS1, hS2⟩ := hSw
    go_simp
    try with_reducible rfl
  try simp only [Act.put, List.setIfInBounds_toArray, List.set_cons_zero, List.set_cons_succ]
  refine wpAnyH_take (i := 9) (oi := ⟨_, _, _, _, _, _⟩) (v := ?_) rfl (by kernel_rfl) (by kernel_rfl) (by kernel_rfl) (fun _ _ _ h => h) (Or.inl ⟨by rfl, ?_⟩) (by assumption) ?_
  rotate_left 1
  · intro W' hSw
    obtain ⟨hS1, hS2⟩ := hSw
    go_simp
    try with_reducible rfl
  try simp only [Act.put, List.setIfInBounds_toArray, List.set_cons_zero, List.set_cons_succ]
  refine wpAnyH_done (by kernel_rfl) ?_ _
  rcases HF.out with ⟨n, g1, g2, g3⟩ | ⟨g1, g2⟩
  · have e1 : ¬ ((v : Int) = 0) := by omega
    have e1b : ((v : Int) == 0) = false := by simp; omega
    have e2 : IntKind.i64.wrap ((v : Int) - 1) = (n : Int) := by rw [IntKind.wrap_i64]; omega
    have e3 : (v : Int) - 1 = (n : Int) := by omega
    clear HR
    subst g2
    go_wp2_with fail
    go_ret2
    refine ⟨?_, _, rfl⟩
    first | (rw [e2]; rfl) | (rw [e3]; rfl) | rfl
  · subst g1
    clear HR
    subst g2
    go_wp2_with fail
    go_ret2
    exact ⟨rfl, _, rfl⟩
end Go.Proofs.Qxb6500789a
