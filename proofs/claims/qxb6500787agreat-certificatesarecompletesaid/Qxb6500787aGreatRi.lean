
import Derived.Test.Qxb6500787aGreatRh
import Derived.StillTailTactics
import Derived.Deep.QuietTactic
import Derived.BigQuiet
import Derived.Deep.RegionHeld
import Derived.Deep.CutRange
import Derived.Laws.ResultCell
import Derived.Laws.Rows
import Derived.DeepKeys
import Derived.DataBytes
import Derived.Laws.StructEq
import Derived.Laws.AppendOwn
import Derived.Laws.MakeOwn
set_option linter.unusedSimpArgs false
set_option linter.unusedVariables false
namespace Go.Proofs.Qxb6500787aGreat
open Go.RowKit Go.Blk
attribute [local go_sem ↓] execOp_load execOp_store execOp_alloc
attribute [local go_sem] Tryz.ld26 Tryz.st26 Tryz.ld27 Tryz.st27 Tryz.ld28 Tryz.st28 Tryz.ld3 Tryz.st3 Tryz.ld29 Tryz.st29 Tryz.ld4 Tryz.st4 Tryz.ld50 Tryz.st50 Tryz.ld68 Tryz.st68 Tryz.ld9 Tryz.st9 Tryz.ld2 Tryz.st2 Tryz.ld5 Tryz.st5 Tryz.ld12 Tryz.st12 Tryz.ld21 Tryz.st21 Tryz.ld22 Tryz.st22 Tryz.ld24 Tryz.st24 Tryz.ld32 Tryz.st32 Tryz.ld40 Tryz.st40 Tryz.ld44 Tryz.st44 Tryz.ld49 Tryz.st49 Tryz.ld58 Tryz.st58 Tryz.ld97 Tryz.st97 Tryz.ld101 Tryz.st101 Tryz.ld116 Tryz.st116 Tryz.ld121 Tryz.st121 Tryz.ld135 Tryz.st135 Tryz.ld136 Tryz.st136 Tryz.ld138 Tryz.st138 Tryz.ld139 Tryz.st139 Tryz.ld142 Tryz.st142 Tryz.ld143 Tryz.st143 Tryz.ld146 Tryz.st146 Tryz.ld148 Tryz.st148 Tryz.ld154 Tryz.st154 Tryz.ld159 Tryz.st159 Tryz.ld173 Tryz.st173 Tryz.ld183 Tryz.st183 Tryz.ld184 Tryz.st184 Tryz.ld187 Tryz.st187 Tryz.ld192 Tryz.st192 Tryz.ld195 Tryz.st195 Tryz.ld217 Tryz.st217 Tryz.ld222 Tryz.st222 Tryz.ld241 Tryz.st241 Tryz.ld248 Tryz.st248 Tryz.ld268 Tryz.st268 Tryz.ld272 Tryz.st272 Tryz.ld129 Tryz.st129 Tryz.ld31 Tryz.st31 Tryz.ld52 Tryz.st52 Tryz.ld70 Tryz.st70 Tryz.ld74 Tryz.st74 Tryz.ld93 Tryz.st93 Tryz.al129 Tryz.al31 Tryz.al52 Tryz.al70 Tryz.al74 Tryz.al93
attribute [local go_sem] Request.length_enc Request.ok_enc Request.all_get Request.all_set Request.kind_get Request.kind_set Request.blob_get Request.blob_set Request.items_get Request.items_set Request.pred_get Request.pred_set Request.slots_get Request.slots_set Item.length_enc Item.ok_enc Item.all_get Item.all_set Item.del_get Item.del_set Item.pred_get Item.pred_set Item.args_get Item.args_set GOp.length_enc GOp.ok_enc GOp.all_get GOp.all_set GOp.kind_get GOp.kind_set GOp.raw_get GOp.raw_set Reader.length_enc Reader.ok_enc Reader.all_get Reader.all_set Reader.buf_get Reader.buf_set Reader.at__get Reader.at__set Slot.length_enc Slot.ok_enc Slot.all_get Slot.all_set Slot.bound_get Slot.bound_set Slot.name_get Slot.name_set
attribute [local go_sem] size_put size_ext blk_put free_put blk_alloc free_alloc blk_drew free_drew blk_ext free_ext lookOr_some putOr_some segAt_some cellAt_some storeIn_some put_put put_alloc_new length_arr ok_arr_u8 ok_arr_u32 ok_arr_u64 ok_arr_i64 ok_arr_sl cellsV_agg cellsV_int cellsV_bool cellsV_string cellsV_pointer cellsV_slice cellsV_sl ok_int ok_bool ok_string ok_pointer ok_slice ok_sl toList_arr seg_arr set_arr nth_splice nth_splice0 seg_splice seg_splice0 splice_splice splice_splice0 length_splice_if
attribute [local go_sem ↓] execOp_box
attribute [local go_sem] box_run nth_arr_u8 put_arr_u8 blk_drewN free_drewN put_drewN blk_raw free_raw
structure Rq where
  kind : Int
  blob : List UInt8
  items : List It
  pred : Int
  slots : List Slt
def Rq.zero : Rq := ⟨0, [], [], 0, []⟩
def bodyF (k : Int) (ys : List UInt8) : Int × Rq × List UInt8 :=
  if k = 1 ∨ k = 7 then (0, ⟨k, ys, [], 0, []⟩, [])
  else if k = 2 ∨ k = 3 ∨ k = 5 then ((factF ys).1, ⟨k, [], [(decide (k = 3), (factF ys).2.1, (factF ys).2.2.1)], 0, []⟩, (factF ys).2.2.2)
  else if k = 4 then ((batchF ys).1, ⟨k, [], (batchF ys).2.1, 0, []⟩, (batchF ys).2.2)
  else match ys with
    | [] => (5, Rq.zero, [])
    | p :: r => ((slotsF r).1, ⟨k, [], [], ((p.toNat : Nat) : Int), (slotsF r).2.1⟩, (slotsF r).2.2)
def finF (b : Int × Rq × List UInt8) : Int × Rq := if b.1 ≠ 0 then (b.1, Rq.zero) else if b.2.2 ≠ [] then (6, Rq.zero) else (0, b.2.1)
def decF (xs : List UInt8) : Int × Rq := if (hdrF xs).1 ≠ 0 then ((hdrF xs).1, Rq.zero) else finF (bodyF (hdrF xs).2 (xs.drop 4))
theorem hdr_kind {xs : List UInt8} (h : (hdrF xs).1 = 0) : 4 ≤ xs.length ∧ ∃ k : Nat, 1 ≤ k ∧ k ≤ 7 ∧ (hdrF xs).2 = (k : Int) := by
  by_cases h4 : xs.length < 4
  · rw [hdrF_short h4] at h; exact absurd h (by decide)
  obtain ⟨x0, x1, x2, x3, r, rfl⟩ := four (xs := xs) (by omega)
  refine ⟨by omega, x1.toNat, ?_⟩
  rw [hdrF_cons] at h ⊢
  by_cases c0 : x0.toNat ≠ 1
  · rw [if_pos c0] at h; exact absurd h (by decide)
  rw [if_neg c0] at h ⊢
  by_cases c1 : x1.toNat = 0 ∨ 8 ≤ x1.toNat
  · rw [if_pos c1] at h; exact absurd h (by decide)
  rw [if_neg c1] at h ⊢
  by_cases c2 : x2.toNat * 256 + x3.toNat ≠ r.length
  · rw [if_pos c2] at h; exact absurd h (by decide)
  rw [if_neg c2]
  exact ⟨by omega, by omega, rfl⟩
def reqE (k : Int) (ba : Option Addr) (bn bc : Nat) (ia : Option Addr) (iN ic : Nat) (p : Int) (sa : Option Addr) (sn sc : Nat) : List Value := Request.enc ⟨k, ⟨ba, bn, bc⟩, ⟨ia, iN, ic⟩, p, ⟨sa, sn, sc⟩⟩
theorem rq_len (k : Int) (ba : Option Addr) (bn bc : Nat) (ia : Option Addr) (iN ic : Nat) (p : Int) (sa : Option Addr) (sn sc : Nat) : (reqE k ba bn bc ia iN ic p sa sn sc).length = 5 := rfl
theorem rq0 (k : Int) (ba : Option Addr) (bn bc : Nat) (ia : Option Addr) (iN ic : Nat) (p : Int) (sa : Option Addr) (sn sc : Nat) : nth (reqE k ba bn bc ia iN ic p sa sn sc) 0 = some (.int .i64 k) := rfl
theorem rq1 (k : Int) (ba : Option Addr) (bn bc : Nat) (ia : Option Addr) (iN ic : Nat) (p : Int) (sa : Option Addr) (sn sc : Nat) : nth (reqE k ba bn bc ia iN ic p sa sn sc) 1 = some (.slice ba bn bc) := rfl
theorem rq2 (k : Int) (ba : Option Addr) (bn bc : Nat) (ia : Option Addr) (iN ic : Nat) (p : Int) (sa : Option Addr) (sn sc : Nat) : nth (reqE k ba bn bc ia iN ic p sa sn sc) 2 = some (.slice ia iN ic) := rfl
theorem rq3 (k : Int) (ba : Option Addr) (bn bc : Nat) (ia : Option Addr) (iN ic : Nat) (p : Int) (sa : Option Addr) (sn sc : Nat) : nth (reqE k ba bn bc ia iN ic p sa sn sc) 3 = some (.int .i64 p) := rfl
theorem rq4 (k : Int) (ba : Option Addr) (bn bc : Nat) (ia : Option Addr) (iN ic : Nat) (p : Int) (sa : Option Addr) (sn sc : Nat) : nth (reqE k ba bn bc ia iN ic p sa sn sc) 4 = some (.slice sa sn sc) := rfl
theorem rq_all (k : Int) (ba : Option Addr) (bn bc : Nat) (ia : Option Addr) (iN ic : Nat) (p : Int) (sa : Option Addr) (sn sc : Nat) : seg (reqE k ba bn bc ia iN ic p sa sn sc) 0 5 = reqE k ba bn bc ia iN ic p sa sn sc := rfl
theorem rq_ok (k : Int) (ba : Option Addr) (bn bc : Nat) (ia : Option Addr) (iN ic : Nat) (p : Int) (sa : Option Addr) (sn sc : Nat) : okCells 5 (reqE k ba bn bc ia iN ic p sa sn sc) = true := rfl
theorem rq_set1 (k : Int) (ba : Option Addr) (bn bc : Nat) (ia : Option Addr) (iN ic : Nat) (p : Int) (sa : Option Addr) (sn sc : Nat) (a' : Option Addr) (n' c' : Nat) : splice (reqE k ba bn bc ia iN ic p sa sn sc) 1 [.slice a' n' c'] = reqE k a' n' c' ia iN ic p sa sn sc := rfl
theorem rq_set2 (k : Int) (ba : Option Addr) (bn bc : Nat) (ia : Option Addr) (iN ic : Nat) (p : Int) (sa : Option Addr) (sn sc : Nat) (a' : Option Addr) (n' c' : Nat) : splice (reqE k ba bn bc ia iN ic p sa sn sc) 2 [.slice a' n' c'] = reqE k ba bn bc a' n' c' p sa sn sc := rfl
theorem rq_set3 (k : Int) (ba : Option Addr) (bn bc : Nat) (ia : Option Addr) (iN ic : Nat) (p : Int) (sa : Option Addr) (sn sc : Nat) (q : Int) : splice (reqE k ba bn bc ia iN ic p sa sn sc) 3 [.int .i64 q] = reqE k ba bn bc ia iN ic q sa sn sc := rfl
theorem rq_set4 (k : Int) (ba : Option Addr) (bn bc : Nat) (ia : Option Addr) (iN ic : Nat) (p : Int) (sa : Option Addr) (sn sc : Nat) (a' : Option Addr) (n' c' : Nat) : splice (reqE k ba bn bc ia iN ic p sa sn sc) 4 [.slice a' n' c'] = reqE k ba bn bc ia iN ic p a' n' c' := rfl
theorem rq_put (x : Request) (k : Int) (ba : Option Addr) (bn bc : Nat) (ia : Option Addr) (iN ic : Nat) (p : Int) (sa : Option Addr) (sn sc : Nat) : splice x.enc 0 (reqE k ba bn bc ia iN ic p sa sn sc) = reqE k ba bn bc ia iN ic p sa sn sc := Request.all_set x _
theorem rq_put2 (k : Int) (ba : Option Addr) (bn bc : Nat) (ia : Option Addr) (iN ic : Nat) (p : Int) (sa : Option Addr) (sn sc : Nat) (k' : Int) (ba' : Option Addr) (bn' bc' : Nat) (ia' : Option Addr) (iN' ic' : Nat) (p' : Int) (sa' : Option Addr) (sn' sc' : Nat) : splice (reqE k ba bn bc ia iN ic p sa sn sc) 0 (reqE k' ba' bn' bc' ia' iN' ic' p' sa' sn' sc') = reqE k' ba' bn' bc' ia' iN' ic' p' sa' sn' sc' := rfl
theorem build31z (w : World) : (buildOp 37 #[]).run Tryz.prog w = .ok (.value (.agg (reqE 0 none 0 0 none 0 0 0 none 0 0).toArray)) w := by kernel_rfl
theorem build31k (w : World) (k : Int) : (buildOp 37 #[(0, .int .i64 k)]).run Tryz.prog w = .ok (.value (.agg (reqE k none 0 0 none 0 0 0 none 0 0).toArray)) w := by kernel_rfl
theorem build74 (w : World) (a : Option Addr) (n c : Nat) : (buildOp 171 #[(0, .slice a n c), (1, .int .i64 4)]).run Tryz.prog w = .ok (.value (.agg (rdE a n c 4).toArray)) w := by kernel_rfl
theorem rd_put (x : Reader) (a : Option Addr) (n c : Nat) (p : Int) : splice x.enc 0 (rdE a n c p) = rdE a n c p := Reader.all_set x _
theorem rd_ok (a : Option Addr) (n c : Nat) (p : Int) : okCells 2 (rdE a n c p) = true := rfl
def ReqOk (W : World) (B : Nat) (k : Int) (ba : Option Addr) (bn bc : Nat) (ia : Option Addr) (iN ic : Nat) (p : Int) (sa : Option Addr) (sn sc : Nat) (q : Rq) : Prop :=
  k = q.kind ∧ W.ownsRow B 5 1 (.slice ba bn bc) q.blob.length (bv q.blob) ∧ (∃ K, W.ownsRow B 67 3 (.slice ia iN ic) K.length (K.flatMap encD) ∧ ItemsOk W B K q.items) ∧ p = q.pred ∧ W.ownsRow B 93 2 (.slice sa sn sc) q.slots.length (q.slots.flatMap encL)
theorem ownsNil (W : World) (B : Nat) (e : TypeId) (sz : Nat) : W.ownsRow B e sz (.slice none 0 0) 0 [] := ⟨by simp, .inl ⟨rfl, rfl⟩⟩
theorem ReqOk.zero (W : World) (B : Nat) : ReqOk W B 0 none 0 0 none 0 0 0 none 0 0 Rq.zero := ⟨rfl, ownsNil _ _ _ _, ⟨[], ownsNil _ _ _ _, ⟨rfl, fun i d it h => by simp at h⟩⟩, rfl, ownsNil _ _ _ _⟩
def DecPost (W : World) (q : Int × Rq) (e : Ending) (W' : World) : Prop := ∃ k ba bn bc ia iN ic p sa sn sc, e = .returned (.tuple #[.agg (reqE k ba bn bc ia iN ic p sa sn sc).toArray, .int .i64 q.1]) ∧ ReqOk W' W.heap.size k ba bn bc ia iN ic p sa sn sc q.2 ∧ W.Extends W'
theorem bv_append (xs ys : List UInt8) : bv (xs ++ ys) = bv xs ++ bv ys := by simp [bv]
theorem one_bv (xs : List UInt8) : ∀ u ∈ bv xs, u.oneCell' = true := fun u hu => by
  obtain ⟨x, _, rfl⟩ := List.mem_map.1 hu
  rfl
/-- Bytes appended to a row of one's own. -/
theorem appB (B : Nat) (w : World) (ty : TypeId) (v : Value) (xs ys : List UInt8) (sp : Option Addr) (c : Nat) (h : w.ownsRow B 5 1 v xs.length (bv xs)) (hs : Bs w sp ys.length ys) (hb : B ≤ w.heap.size) (hl : xs.length + ys.length ≤ 1000000000) :
    ∃ a' n' c' w', (Builtin.append_ #[31, 31] ty #[v, .slice sp ys.length c]).run Tryz.prog w = .ok (.slice a' n' c') w' ∧ w'.ownsRow B 5 1 (.slice a' n' c') (xs ++ ys).length (bv (xs ++ ys)) ∧ w.grownBy w' v.ownBlock := by
  obtain ⟨i, z, hi, hz, hsz, hby, hzc⟩ := info5
  by_cases h0 : ys = []
  · subst h0
    obtain ⟨a', c', rfl⟩ := row_val h
    refine ⟨a', xs.length, c', w, ?_, by rw [List.append_nil]; exact h, ⟨rfl, rfl, rfl, Nat.le_refl _, fun _ _ _ => rfl⟩⟩
    have hl0 : ∀ (x : Addr), (loadCells x 0).run Tryz.prog w = .ok #[] w := fun x => by simpa using run_loadCells_list (P := Tryz.prog) w x [] (by simp)
    obtain ⟨_, h | h⟩ := h
    · rw [h.1]
      cases sp <;> simp [Builtin.append_, run_underlying Tryz.underlying31, sizeOf, typeInfo, hi, hsz, Builtin.lenOf, Builtin.firstCells, hl0, storeCells]
    · obtain ⟨g, cap, cur, h1, _, h2, h3, h4, h5, h6⟩ := h
      rw [h1]
      cases sp <;> simp [Builtin.append_, run_underlying Tryz.underlying31, sizeOf, typeInfo, hi, hsz, Builtin.lenOf, Builtin.firstCells, h3, hl0, storeCells]
  · have hpos : 0 < ys.length := List.length_pos_iff.2 h0
    obtain ⟨b, o, C, rfl, hC, hfit, hseg⟩ := hs.2.1 (by omega)
    obtain ⟨v', w', hr, h1, h2, _⟩ := run_append_own (P := Tryz.prog) w B 31 ty 5 i z 1 1 Tryz.underlying31 hi hz hsz hby hzc (by decide) v xs.length (bv xs) h ⟨b, o, none⟩ ys.length c (bv ys) (by rw [length_bv]; omega)
      (by
        intro j u hu
        rw [add_addr, cell_blk hC]
        rw [← hseg, seg_nth] at hu
        split at hu
        · exact hu
        · simp at hu)
      (one_bv ys) (by simp only [maxLen]; omega) (by omega) hb
    obtain ⟨a', c', rfl⟩ := row_val h1
    refine ⟨a', _, c', w', hr, ?_, h2⟩
    rw [List.length_append, bv_append]
    exact h1
end Go.Proofs.Qxb6500787aGreat
