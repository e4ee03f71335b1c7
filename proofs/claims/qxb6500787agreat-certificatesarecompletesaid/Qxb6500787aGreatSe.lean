
import Derived.Test.Qxb6500787aGreatSd
import Derived.StillTailTactics
import Derived.Deep.QuietTactic
import Derived.BigQuiet
import Derived.Deep.RegionHeld
import Derived.Deep.CutRange
import Derived.Laws.ResultCell
import Derived.Laws.Rows
import Derived.DeepKeys
import Derived.DataBytes
import Derived.Laws.StructEq
import Derived.Laws.AppendOwn
import Derived.Laws.MakeOwn
import Derived.Lib.AppendStr
set_option linter.unusedSimpArgs false
set_option linter.unusedVariables false
namespace Go.Proofs.Qxb6500787aGreat
open Go.RowKit Go.Blk
attribute [local go_sem ↓] execOp_load execOp_store execOp_alloc
attribute [local go_sem] Tryz.ld26 Tryz.st26 Tryz.ld27 Tryz.st27 Tryz.ld28 Tryz.st28 Tryz.ld3 Tryz.st3 Tryz.ld29 Tryz.st29 Tryz.ld4 Tryz.st4 Tryz.ld50 Tryz.st50 Tryz.ld68 Tryz.st68 Tryz.ld9 Tryz.st9 Tryz.ld2 Tryz.st2 Tryz.ld5 Tryz.st5 Tryz.ld12 Tryz.st12 Tryz.ld21 Tryz.st21 Tryz.ld22 Tryz.st22 Tryz.ld24 Tryz.st24 Tryz.ld32 Tryz.st32 Tryz.ld40 Tryz.st40 Tryz.ld44 Tryz.st44 Tryz.ld49 Tryz.st49 Tryz.ld58 Tryz.st58 Tryz.ld97 Tryz.st97 Tryz.ld101 Tryz.st101 Tryz.ld116 Tryz.st116 Tryz.ld121 Tryz.st121 Tryz.ld135 Tryz.st135 Tryz.ld136 Tryz.st136 Tryz.ld138 Tryz.st138 Tryz.ld139 Tryz.st139 Tryz.ld142 Tryz.st142 Tryz.ld143 Tryz.st143 Tryz.ld146 Tryz.st146 Tryz.ld148 Tryz.st148 Tryz.ld154 Tryz.st154 Tryz.ld159 Tryz.st159 Tryz.ld173 Tryz.st173 Tryz.ld183 Tryz.st183 Tryz.ld184 Tryz.st184 Tryz.ld187 Tryz.st187 Tryz.ld192 Tryz.st192 Tryz.ld195 Tryz.st195 Tryz.ld217 Tryz.st217 Tryz.ld222 Tryz.st222 Tryz.ld241 Tryz.st241 Tryz.ld248 Tryz.st248 Tryz.ld268 Tryz.st268 Tryz.ld272 Tryz.st272 Tryz.ld129 Tryz.st129 Tryz.ld31 Tryz.st31 Tryz.ld52 Tryz.st52 Tryz.ld70 Tryz.st70 Tryz.ld74 Tryz.st74 Tryz.ld93 Tryz.st93 Tryz.al129 Tryz.al31 Tryz.al52 Tryz.al70 Tryz.al74 Tryz.al93
attribute [local go_sem] Request.length_enc Request.ok_enc Request.all_get Request.all_set Request.kind_get Request.kind_set Request.blob_get Request.blob_set Request.items_get Request.items_set Request.pred_get Request.pred_set Request.slots_get Request.slots_set Item.length_enc Item.ok_enc Item.all_get Item.all_set Item.del_get Item.del_set Item.pred_get Item.pred_set Item.args_get Item.args_set GOp.length_enc GOp.ok_enc GOp.all_get GOp.all_set GOp.kind_get GOp.kind_set GOp.raw_get GOp.raw_set Reader.length_enc Reader.ok_enc Reader.all_get Reader.all_set Reader.buf_get Reader.buf_set Reader.at__get Reader.at__set Slot.length_enc Slot.ok_enc Slot.all_get Slot.all_set Slot.bound_get Slot.bound_set Slot.name_get Slot.name_set
attribute [local go_sem] size_put size_ext blk_put free_put blk_alloc free_alloc blk_drew free_drew blk_ext free_ext lookOr_some putOr_some segAt_some cellAt_some storeIn_some put_put put_alloc_new length_arr ok_arr_u8 ok_arr_u32 ok_arr_u64 ok_arr_i64 ok_arr_sl cellsV_agg cellsV_int cellsV_bool cellsV_string cellsV_pointer cellsV_slice cellsV_sl ok_int ok_bool ok_string ok_pointer ok_slice ok_sl toList_arr seg_arr set_arr nth_splice nth_splice0 seg_splice seg_splice0 splice_splice splice_splice0 length_splice_if
attribute [local go_sem ↓] execOp_box
attribute [local go_sem] box_run nth_arr_u8 put_arr_u8 blk_drewN free_drewN put_drewN blk_raw free_raw
theorem ReqOk.grow {W W' : World} {B : Nat} {k : Int} {ba : Option Addr} {bn bc : Nat} {ia : Option Addr} {iN ic : Nat} {p : Int} {sa : Option Addr} {sn sc : Nat} {q : Rq} (h : ReqOk W B k ba bn bc ia iN ic p sa sn sc q) (he : W.Extends W') : ReqOk W' B k ba bn bc ia iN ic p sa sn sc q := by
  obtain ⟨h1, h2, ⟨K, h3, h4⟩, h5, h6⟩ := h
  exact ⟨h1, row_keep h2 (fun j hj => he.block j (row_at h2 j hj).2.1), ⟨K, row_keep h3 (fun j hj => he.block j (row_at h3 j hj).2.1), h4.keep (Keep9.of_extends he)⟩, h5, row_keep h6 (fun j hj => he.block j (row_at h6 j hj).2.1)⟩
theorem decF_bad {xs : List UInt8} (h : (decF xs).1 ≠ 0) : (decF xs).2 = Rq.zero := by
  unfold decF at h ⊢
  split
  · rfl
  · rename_i h0
    rw [if_neg h0] at h
    obtain ⟨b, hb⟩ : ∃ b, b = bodyF (hdrF xs).2 (xs.drop 4) := ⟨_, rfl⟩
    rw [← hb] at h ⊢
    by_cases h1 : b.1 = 0
    · by_cases h2 : b.2.2 = []
      · rw [fin_ok h1 h2] at h; exact absurd rfl h
      · rw [fin_trail h1 h2]
    · rw [fin_bad h1]
theorem decF_small {xs : List UInt8} (hx : xs.length ≤ 65536) : (decF xs).2.blob.length ≤ 65536 ∧ (decF xs).2.items.length ≤ 65536 ∧ (decF xs).2.slots.length ≤ 65536 ∧ ∀ it ∈ (decF xs).2.items, it.2.2.length ≤ 1000000000000 := by
  by_cases h : (decF xs).1 = 0
  · obtain ⟨k, pay, ⟨_, k1, k7, hpay, v1, v2, v4, v6⟩, _⟩ := decF_inv (xs := xs) (q := (decF xs).2) (by rw [← h]) hx
    obtain ⟨q, hq⟩ : ∃ q, q = (decF xs).2 := ⟨_, rfl⟩
    rw [← hq] at v1 v2 v4 v6 ⊢
    have hkc : (k = 1 ∨ k = 7) ∨ (k = 2 ∨ k = 3 ∨ k = 5) ∨ k = 4 ∨ k = 6 := by omega
    rcases hkc with hk | hk | hk | hk
    · obtain ⟨e1, e2, e3⟩ := v1 hk
      rw [← e1, e2, e3]; exact ⟨by omega, by simp, by simp, fun it h => by simp at h⟩
    · obtain ⟨it, e1, e2, e3, e4, e5⟩ := v2 hk
      rw [e1, e4, e5]; exact ⟨by simp, by simp, by simp, fun x h => by rw [List.mem_singleton.1 h]; have := e2.2.2.1; omega⟩
    · obtain ⟨e1, e2, e3, e4, e5⟩ := v4 hk
      rw [e4, e5]; exact ⟨by simp, by omega, by simp, fun x h => by have := (e2 x h).2.2.1; omega⟩
    · obtain ⟨p, e1, e2, e3, e4, e5, e6, e7⟩ := v6 hk
      rw [e6, e7]; exact ⟨by simp, by simp, by omega, fun x h => by simp at h⟩
  · rw [decF_bad h]; exact ⟨by simp [Rq.zero], by simp [Rq.zero], by simp [Rq.zero], fun it h => by simp [Rq.zero] at h⟩
attribute [local go_sem] rq_len rq_all rq_ok rq_put rq_put2
end Go.Proofs.Qxb6500787aGreat
