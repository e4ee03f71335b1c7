
import Derived.Test.Qxb6500787aGreatRt
import Derived.StillTailTactics
import Derived.Deep.QuietTactic
import Derived.BigQuiet
import Derived.Deep.RegionHeld
import Derived.Deep.CutRange
import Derived.Laws.ResultCell
import Derived.Laws.Rows
import Derived.DeepKeys
import Derived.DataBytes
import Derived.Laws.StructEq
import Derived.Laws.AppendOwn
import Derived.Laws.MakeOwn
import Derived.Lib.AppendStr
set_option linter.unusedSimpArgs false
set_option linter.unusedVariables false
namespace Go.Proofs.Qxb6500787aGreat
open Go.RowKit Go.Blk
attribute [local go_sem ↓] execOp_load execOp_store execOp_alloc
attribute [local go_sem] Tryz.ld26 Tryz.st26 Tryz.ld27 Tryz.st27 Tryz.ld28 Tryz.st28 Tryz.ld3 Tryz.st3 Tryz.ld29 Tryz.st29 Tryz.ld4 Tryz.st4 Tryz.ld50 Tryz.st50 Tryz.ld68 Tryz.st68 Tryz.ld9 Tryz.st9 Tryz.ld2 Tryz.st2 Tryz.ld5 Tryz.st5 Tryz.ld12 Tryz.st12 Tryz.ld21 Tryz.st21 Tryz.ld22 Tryz.st22 Tryz.ld24 Tryz.st24 Tryz.ld32 Tryz.st32 Tryz.ld40 Tryz.st40 Tryz.ld44 Tryz.st44 Tryz.ld49 Tryz.st49 Tryz.ld58 Tryz.st58 Tryz.ld97 Tryz.st97 Tryz.ld101 Tryz.st101 Tryz.ld116 Tryz.st116 Tryz.ld121 Tryz.st121 Tryz.ld135 Tryz.st135 Tryz.ld136 Tryz.st136 Tryz.ld138 Tryz.st138 Tryz.ld139 Tryz.st139 Tryz.ld142 Tryz.st142 Tryz.ld143 Tryz.st143 Tryz.ld146 Tryz.st146 Tryz.ld148 Tryz.st148 Tryz.ld154 Tryz.st154 Tryz.ld159 Tryz.st159 Tryz.ld173 Tryz.st173 Tryz.ld183 Tryz.st183 Tryz.ld184 Tryz.st184 Tryz.ld187 Tryz.st187 Tryz.ld192 Tryz.st192 Tryz.ld195 Tryz.st195 Tryz.ld217 Tryz.st217 Tryz.ld222 Tryz.st222 Tryz.ld241 Tryz.st241 Tryz.ld248 Tryz.st248 Tryz.ld268 Tryz.st268 Tryz.ld272 Tryz.st272 Tryz.ld129 Tryz.st129 Tryz.ld31 Tryz.st31 Tryz.ld52 Tryz.st52 Tryz.ld70 Tryz.st70 Tryz.ld74 Tryz.st74 Tryz.ld93 Tryz.st93 Tryz.al129 Tryz.al31 Tryz.al52 Tryz.al70 Tryz.al74 Tryz.al93
attribute [local go_sem] Request.length_enc Request.ok_enc Request.all_get Request.all_set Request.kind_get Request.kind_set Request.blob_get Request.blob_set Request.items_get Request.items_set Request.pred_get Request.pred_set Request.slots_get Request.slots_set Item.length_enc Item.ok_enc Item.all_get Item.all_set Item.del_get Item.del_set Item.pred_get Item.pred_set Item.args_get Item.args_set GOp.length_enc GOp.ok_enc GOp.all_get GOp.all_set GOp.kind_get GOp.kind_set GOp.raw_get GOp.raw_set Reader.length_enc Reader.ok_enc Reader.all_get Reader.all_set Reader.buf_get Reader.buf_set Reader.at__get Reader.at__set Slot.length_enc Slot.ok_enc Slot.all_get Slot.all_set Slot.bound_get Slot.bound_set Slot.name_get Slot.name_set
attribute [local go_sem] size_put size_ext blk_put free_put blk_alloc free_alloc blk_drew free_drew blk_ext free_ext lookOr_some putOr_some segAt_some cellAt_some storeIn_some put_put put_alloc_new length_arr ok_arr_u8 ok_arr_u32 ok_arr_u64 ok_arr_i64 ok_arr_sl cellsV_agg cellsV_int cellsV_bool cellsV_string cellsV_pointer cellsV_slice cellsV_sl ok_int ok_bool ok_string ok_pointer ok_slice ok_sl toList_arr seg_arr set_arr nth_splice nth_splice0 seg_splice seg_splice0 splice_splice splice_splice0 length_splice_if
attribute [local go_sem ↓] execOp_box
attribute [local go_sem] box_run nth_arr_u8 put_arr_u8 blk_drewN free_drewN put_drewN blk_raw free_raw
def encSl (s : Slt) : List UInt8 := if s.1 then 1 :: encN s.2 else [0]
def encP (p : Nat) (L : List Slt) : List UInt8 := UInt8.ofNat p :: UInt8.ofNat L.length :: L.flatMap encSl
theorem nameF_inv {ys nm rest : List UInt8} (h : nameF ys = (0, nm, rest)) : ys = encN nm ++ rest ∧ nm.length ≤ 64 := by
  cases ys with
  | nil => simp [nameF] at h
  | cons x ys =>
    rw [nameF_cons] at h
    by_cases c1 : 64 < x.toNat
    · rw [if_pos c1] at h; simp at h
    rw [if_neg c1] at h
    by_cases c2 : ys.length < x.toNat
    · rw [if_pos c2] at h; simp at h
    rw [if_neg c2] at h
    simp only [Prod.mk.injEq, true_and] at h
    obtain ⟨rfl, rfl⟩ := h
    have hl : (ys.take x.toNat).length = x.toNat := by rw [List.length_take]; omega
    refine ⟨?_, by omega⟩
    unfold encN
    rw [hl, UInt8.ofNat_toNat, List.cons_append, List.take_append_drop]
theorem goN_inv : ∀ (m : Nat) (acc : List (List UInt8)) (ys : List UInt8) (L : List (List UInt8)) (rest : List UInt8), goN m acc ys = (0, L, rest) → ∃ L', L = acc ++ L' ∧ L'.length = m ∧ ys = L'.flatMap encN ++ rest ∧ ∀ nm ∈ L', nm.length ≤ 64
  | 0, acc, ys, L, rest, h => by
    have h' : (0, acc, ys) = ((0 : Int), L, rest) := h
    simp only [Prod.mk.injEq, true_and] at h'
    obtain ⟨rfl, rfl⟩ := h'
    exact ⟨[], by simp⟩
  | m + 1, acc, ys, L, rest, h => by
    by_cases c : (nameF ys).1 = 0
    · rw [goN_ok c] at h
      obtain ⟨L', rfl, h2, h3, h4⟩ := goN_inv m _ _ _ _ h
      have hn : nameF ys = (0, (nameF ys).2.1, (nameF ys).2.2) := by rw [← c]
      obtain ⟨g1, g2⟩ := nameF_inv hn
      refine ⟨(nameF ys).2.1 :: L', by simp, by simp [h2], ?_, ?_⟩
      · rw [List.flatMap_cons, List.append_assoc, ← h3]; exact g1
      · intro nm hm
        rcases List.mem_cons.1 hm with rfl | hm
        · exact g2
        · exact h4 nm hm
    · rw [goN_bad c] at h
      simp only [Prod.mk.injEq] at h
      exact absurd h.1 c
theorem factF_inv {ys : List UInt8} {p : Int} {L : List (List UInt8)} {rest : List UInt8} (h : factF ys = (0, p, L, rest)) : 0 ≤ p ∧ p ≤ 255 ∧ L.length ≤ 4 ∧ (∀ nm ∈ L, nm.length ≤ 64) ∧ ys = encF p.toNat L ++ rest := by
  match ys, h with
  | [], h => simp [factF] at h
  | [_], h => simp [factF] at h
  | q :: k :: r, h =>
    rw [factF_cons] at h
    by_cases c1 : 4 < k.toNat
    · rw [if_pos c1] at h; simp at h
    rw [if_neg c1] at h
    by_cases c2 : (goN k.toNat [] r).1 = 0
    · rw [if_pos c2] at h
      simp only [Prod.mk.injEq, true_and] at h
      obtain ⟨rfl, h2, h3⟩ := h
      have hg : goN k.toNat [] r = (0, L, rest) := by rw [← h2, ← h3, ← c2]
      obtain ⟨L', e1, e2, e3, e4⟩ := goN_inv _ _ _ _ _ hg
      have e5 : L' = L := by rw [e1]; rfl
      subst e5
      have := q.toNat_lt
      refine ⟨by omega, by omega, by omega, e4, ?_⟩
      unfold encF
      rw [e2, Int.toNat_natCast, UInt8.ofNat_toNat, UInt8.ofNat_toNat, e3]; rfl
    · rw [if_neg c2] at h
      simp only [Prod.mk.injEq] at h
      exact absurd h.1 c2
theorem tagF_inv {ys : List UInt8} {b : Bool} {rest : List UInt8} (h : tagF ys = (0, b, rest)) : ys = tagB b :: rest := by
  cases ys with
  | nil => simp [tagF] at h
  | cons x ys =>
    rw [tagF_cons] at h
    by_cases c1 : 1 < x.toNat
    · rw [if_pos c1] at h; simp at h
    rw [if_neg c1] at h
    simp only [Prod.mk.injEq, true_and] at h
    obtain ⟨rfl, rfl⟩ := h
    have : x = tagB (decide (x.toNat = 1)) := by
      unfold tagB
      apply UInt8.toNat_inj.1
      by_cases h1 : x.toNat = 1
      · simp [h1]
      · have : x.toNat = 0 := by omega
        simp [this]
    rw [← this]
theorem goB_inv : ∀ (m : Nat) (acc : List It) (ys : List UInt8) (L : List It) (rest : List UInt8), goB m acc ys = (0, L, rest) → ∃ L', L = acc ++ L' ∧ L'.length = m ∧ ys = L'.flatMap encI ++ rest ∧ ∀ it ∈ L', ItV it
  | 0, acc, ys, L, rest, h => by
    have h' : (0, acc, ys) = ((0 : Int), L, rest) := h
    simp only [Prod.mk.injEq, true_and] at h'
    obtain ⟨rfl, rfl⟩ := h'
    exact ⟨[], by simp⟩
  | m + 1, acc, ys, L, rest, h => by
    by_cases c : (tagF ys).1 = 0
    · by_cases c2 : (factF (tagF ys).2.2).1 = 0
      · rw [goB_ok c c2] at h
        obtain ⟨L', rfl, h2, h3, h4⟩ := goB_inv m _ _ _ _ h
        have hn : tagF ys = (0, (tagF ys).2.1, (tagF ys).2.2) := by rw [← c]
        have g1 := tagF_inv hn
        have hf : factF (tagF ys).2.2 = (0, (factF (tagF ys).2.2).2.1, (factF (tagF ys).2.2).2.2.1, (factF (tagF ys).2.2).2.2.2) := by rw [← c2]
        obtain ⟨g2, g3, g4, g5, g6⟩ := factF_inv hf
        refine ⟨((tagF ys).2.1, (factF (tagF ys).2.2).2.1, (factF (tagF ys).2.2).2.2.1) :: L', by simp, by simp [h2], ?_, ?_⟩
        · rw [List.flatMap_cons, List.append_assoc, ← h3]
          unfold encI
          rw [List.cons_append, ← g6]; exact g1
        · intro nm hm
          rcases List.mem_cons.1 hm with rfl | hm
          · exact ⟨g2, g3, g4, g5⟩
          · exact h4 nm hm
      · rw [goB_bad2 c c2] at h
        simp only [Prod.mk.injEq] at h
        exact absurd h.1 c2
    · rw [goB_bad1 c] at h
      simp only [Prod.mk.injEq] at h
      exact absurd h.1 c
theorem batchF_inv {ys : List UInt8} {L : List It} {rest : List UInt8} (h : batchF ys = (0, L, rest)) : L.length ≤ 32 ∧ (∀ it ∈ L, ItV it) ∧ ys = encB L ++ rest := by
  cases ys with
  | nil => simp [batchF] at h
  | cons k r =>
    rw [batchF_cons] at h
    by_cases c1 : 32 < k.toNat
    · rw [if_pos c1] at h; simp at h
    rw [if_neg c1] at h
    obtain ⟨L', e1, e2, e3, e4⟩ := goB_inv _ _ _ _ _ h
    have e5 : L' = L := by rw [e1]; rfl
    subst e5
    refine ⟨by omega, e4, ?_⟩
    unfold encB
    rw [e2, UInt8.ofNat_toNat, e3]; rfl
def SlV (s : Slt) : Prop := s.2.length ≤ 64
theorem goS_inv : ∀ (m : Nat) (acc : List Slt) (ys : List UInt8) (L : List Slt) (rest : List UInt8), goS m acc ys = (0, L, rest) → ∃ L', L = acc ++ L' ∧ L'.length = m ∧ ys = L'.flatMap encSl ++ rest ∧ ∀ it ∈ L', SlV it
  | 0, acc, ys, L, rest, h => by
    have h' : (0, acc, ys) = ((0 : Int), L, rest) := h
    simp only [Prod.mk.injEq, true_and] at h'
    obtain ⟨rfl, rfl⟩ := h'
    exact ⟨[], by simp⟩
  | m + 1, acc, ys, L, rest, h => by
    by_cases c : (tagF ys).1 = 0
    · have hn : tagF ys = (0, (tagF ys).2.1, (tagF ys).2.2) := by rw [← c]
      have g1 := tagF_inv hn
      by_cases cb : (tagF ys).2.1 = true
      · by_cases c2 : (nameF (tagF ys).2.2).1 = 0
        · rw [goS_ok c cb c2] at h
          obtain ⟨L', rfl, h2, h3, h4⟩ := goS_inv m _ _ _ _ h
          have hf : nameF (tagF ys).2.2 = (0, (nameF (tagF ys).2.2).2.1, (nameF (tagF ys).2.2).2.2) := by rw [← c2]
          obtain ⟨g2, g3⟩ := nameF_inv hf
          refine ⟨(true, (nameF (tagF ys).2.2).2.1) :: L', by simp, by simp [h2], ?_, ?_⟩
          · rw [List.flatMap_cons, List.append_assoc, ← h3]
            unfold encSl
            rw [if_pos rfl, List.cons_append, ← g2]
            rw [cb] at g1
            exact g1
          · intro nm hm
            rcases List.mem_cons.1 hm with rfl | hm
            · exact g3
            · exact h4 nm hm
        · rw [goS_bad2 c cb c2] at h
          simp only [Prod.mk.injEq] at h
          exact absurd h.1 c2
      · have cb' : (tagF ys).2.1 = false := by simpa using cb
        rw [goS_free c cb'] at h
        obtain ⟨L', rfl, h2, h3, h4⟩ := goS_inv m _ _ _ _ h
        refine ⟨(false, []) :: L', by simp, by simp [h2], ?_, ?_⟩
        · rw [List.flatMap_cons, List.append_assoc, ← h3]
          rw [cb'] at g1
          exact g1
        · intro nm hm
          rcases List.mem_cons.1 hm with rfl | hm
          · simp [SlV]
          · exact h4 nm hm
    · rw [goS_bad1 c] at h
      simp only [Prod.mk.injEq] at h
      exact absurd h.1 c
theorem slotsF_inv {ys : List UInt8} {L : List Slt} {rest : List UInt8} (h : slotsF ys = (0, L, rest)) : L.length ≤ 4 ∧ (∀ it ∈ L, SlV it) ∧ ys = (UInt8.ofNat L.length :: L.flatMap encSl) ++ rest := by
  cases ys with
  | nil => simp [slotsF] at h
  | cons k r =>
    rw [slotsF_cons] at h
    by_cases c1 : 4 < k.toNat
    · rw [if_pos c1] at h; simp at h
    rw [if_neg c1] at h
    obtain ⟨L', e1, e2, e3, e4⟩ := goS_inv _ _ _ _ _ h
    have e5 : L' = L := by rw [e1]; rfl
    subst e5
    refine ⟨by omega, e4, ?_⟩
    rw [e2, UInt8.ofNat_toNat, e3]; rfl
/-- What a decoded request keeps to, and the bytes of its payload. -/
def RqV (k : Nat) (q : Rq) (pay : List UInt8) : Prop :=
  q.kind = (k : Int) ∧ 1 ≤ k ∧ k ≤ 7 ∧ pay.length ≤ 65535 ∧
  ((k = 1 ∨ k = 7) → pay = q.blob ∧ q.items = [] ∧ q.slots = []) ∧
  ((k = 2 ∨ k = 3 ∨ k = 5) → ∃ it, q.items = [it] ∧ ItV it ∧ pay = encF it.2.1.toNat it.2.2 ∧ q.blob = [] ∧ q.slots = []) ∧
  (k = 4 → q.items.length ≤ 32 ∧ (∀ it ∈ q.items, ItV it) ∧ pay = encB q.items ∧ q.blob = [] ∧ q.slots = []) ∧
  (k = 6 → ∃ p : Nat, q.pred = (p : Int) ∧ p ≤ 255 ∧ q.slots.length ≤ 4 ∧ (∀ s ∈ q.slots, SlV s) ∧ pay = encP p q.slots ∧ q.blob = [] ∧ q.items = [])
theorem finF_inv {b : Int × Rq × List UInt8} {q : Rq} (h : finF b = (0, q)) : b.1 = 0 ∧ b.2.2 = [] ∧ b.2.1 = q := by
  by_cases h1 : b.1 = 0
  · by_cases h2 : b.2.2 = []
    · rw [fin_ok h1 h2] at h; simp at h; exact ⟨h1, h2, h⟩
    · rw [fin_trail h1 h2] at h; simp at h
  · rw [fin_bad h1] at h; simp at h; exact absurd h.1 h1
theorem decF_inv {xs : List UInt8} {q : Rq} (h : decF xs = (0, q)) (hx : xs.length ≤ 65536) : ∃ (k : Nat) (pay : List UInt8), RqV k q pay ∧ xs = [1, UInt8.ofNat k, UInt8.ofNat (pay.length / 256), UInt8.ofNat pay.length] ++ pay := by
  unfold decF at h
  by_cases h0 : (hdrF xs).1 = 0
  rotate_left
  · rw [if_pos h0] at h; simp at h; exact absurd h.1 h0
  rw [if_neg (by simpa using h0)] at h
  by_cases h4 : xs.length < 4
  · rw [hdrF_short h4] at h0; exact absurd h0 (by decide)
  obtain ⟨x0, x1, x2, x3, r, rfl⟩ := four (xs := xs) (by omega)
  rw [hdrF_cons] at h0 h
  by_cases c0 : x0.toNat ≠ 1
  · rw [if_pos c0] at h0; exact absurd h0 (by decide)
  rw [if_neg c0] at h0 h
  by_cases c1 : x1.toNat = 0 ∨ 8 ≤ x1.toNat
  · rw [if_pos c1] at h0; exact absurd h0 (by decide)
  rw [if_neg c1] at h0 h
  by_cases c2 : x2.toNat * 256 + x3.toNat ≠ r.length
  · rw [if_pos c2] at h0; exact absurd h0 (by decide)
  rw [if_neg c2] at h0 h
  have c0' : x0 = 1 := UInt8.toNat_inj.1 (by simpa using c0)
  have c2' : x2.toNat * 256 + x3.toNat = r.length := by simpa using c2
  have l2 := x2.toNat_lt
  have l3 := x3.toNat_lt
  have e2 : UInt8.ofNat (r.length / 256) = x2 := by
    apply UInt8.toNat_inj.1
    rw [UInt8.toNat_ofNat', ← c2']; omega
  have e3 : UInt8.ofNat r.length = x3 := by
    apply UInt8.toNat_inj.1
    rw [UInt8.toNat_ofNat', ← c2']; omega
  subst c0'
  refine ⟨x1.toNat, r, ?_, ?_⟩
  rotate_left
  · rw [UInt8.ofNat_toNat, e2, e3]; rfl
  obtain ⟨k, hk⟩ : ∃ k, k = x1.toNat := ⟨_, rfl⟩
  rw [← hk] at h c1 ⊢
  have hr : r.length ≤ 65535 := by omega
  rw [show List.drop 4 ((1 : UInt8) :: x1 :: x2 :: x3 :: r) = r from rfl] at h
  obtain ⟨f1, f2, f3⟩ := finF_inv h
  clear h hk e2 e3 c2 c2' h0 c0
  dsimp only at f1 f2 f3
  have hkk : k = 1 ∨ k = 7 ∨ k = 2 ∨ k = 3 ∨ k = 5 ∨ k = 4 ∨ k = 6 := by omega
  rcases hkk with hk | hk | hk | hk | hk | hk | hk
  · subst hk
    rw [body1 _ (by decide)] at f3
    subst f3
    refine ⟨rfl, by omega, by omega, hr, fun _ => ⟨rfl, rfl, rfl⟩, fun h => by omega, fun h => by omega, fun h => by omega⟩
  · subst hk
    rw [body1 _ (by decide)] at f3
    subst f3
    refine ⟨rfl, by omega, by omega, hr, fun _ => ⟨rfl, rfl, rfl⟩, fun h => by omega, fun h => by omega, fun h => by omega⟩
  all_goals subst hk
  iterate 3
    · rw [body2 _ (by decide)] at f1 f2 f3
      dsimp only at f1 f2 f3
      have hf : factF r = (0, (factF r).2.1, (factF r).2.2.1, []) := by rw [← f1, ← f2]
      obtain ⟨g1, g2, g3, g4, g5⟩ := factF_inv hf
      rw [List.append_nil] at g5
      subst f3
      exact ⟨rfl, by omega, by omega, hr, fun h => by omega, fun _ => ⟨_, rfl, ⟨g1, g2, g3, g4⟩, g5, rfl, rfl⟩, fun h => by omega, fun h => by omega⟩
  · rw [show ((4 : Nat) : Int) = 4 from rfl, body4] at f1 f2 f3
    dsimp only at f1 f2 f3
    have hf : batchF r = (0, (batchF r).2.1, []) := by rw [← f1, ← f2]
    obtain ⟨g1, g2, g3⟩ := batchF_inv hf
    rw [List.append_nil] at g3
    subst f3
    exact ⟨rfl, by omega, by omega, hr, fun h => by omega, fun h => by omega, fun _ => ⟨g1, g2, g3, rfl, rfl⟩, fun h => by omega⟩
  · rw [show ((6 : Nat) : Int) = 6 from rfl] at f1 f2 f3
    cases r with
    | nil => rw [body6n] at f1; exact absurd f1 (by decide)
    | cons p r =>
      rw [body6c] at f1 f2 f3
      dsimp only at f1 f2 f3
      have hf : slotsF r = (0, (slotsF r).2.1, []) := by rw [← f1, ← f2]
      obtain ⟨g1, g2, g3⟩ := slotsF_inv hf
      rw [List.append_nil] at g3
      subst f3
      have := p.toNat_lt
      refine ⟨rfl, by omega, by omega, hr, fun h => by omega, fun h => by omega, fun h => by omega, fun _ => ⟨p.toNat, rfl, by omega, g1, g2, ?_, rfl, rfl⟩⟩
      unfold encP
      rw [UInt8.ofNat_toNat, ← g3]
end Go.Proofs.Qxb6500787aGreat
