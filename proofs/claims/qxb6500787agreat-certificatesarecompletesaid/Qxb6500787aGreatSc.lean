
import Derived.Test.Qxb6500787aGreatSb
import Derived.Test.Qxb6500787aGreatOpen
import Derived.StillTailTactics
import Derived.Deep.QuietTactic
import Derived.BigQuiet
import Derived.Deep.RegionHeld
import Derived.Deep.CutRange
import Derived.Laws.ResultCell
import Derived.Laws.Rows
import Derived.DeepKeys
import Derived.DataBytes
import Derived.Laws.StructEq
import Derived.Laws.AppendOwn
import Derived.Laws.MakeOwn
import Derived.Lib.AppendStr
set_option linter.unusedSimpArgs false
set_option linter.unusedVariables false
namespace Go.Proofs.Qxb6500787aGreat
open Go.RowKit Go.Blk
attribute [local go_sem ↓] execOp_load execOp_store execOp_alloc
attribute [local go_sem] Tryz.ld26 Tryz.st26 Tryz.ld27 Tryz.st27 Tryz.ld28 Tryz.st28 Tryz.ld3 Tryz.st3 Tryz.ld29 Tryz.st29 Tryz.ld4 Tryz.st4 Tryz.ld50 Tryz.st50 Tryz.ld68 Tryz.st68 Tryz.ld9 Tryz.st9 Tryz.ld2 Tryz.st2 Tryz.ld5 Tryz.st5 Tryz.ld12 Tryz.st12 Tryz.ld21 Tryz.st21 Tryz.ld22 Tryz.st22 Tryz.ld24 Tryz.st24 Tryz.ld32 Tryz.st32 Tryz.ld40 Tryz.st40 Tryz.ld44 Tryz.st44 Tryz.ld49 Tryz.st49 Tryz.ld58 Tryz.st58 Tryz.ld97 Tryz.st97 Tryz.ld101 Tryz.st101 Tryz.ld116 Tryz.st116 Tryz.ld121 Tryz.st121 Tryz.ld135 Tryz.st135 Tryz.ld136 Tryz.st136 Tryz.ld138 Tryz.st138 Tryz.ld139 Tryz.st139 Tryz.ld142 Tryz.st142 Tryz.ld143 Tryz.st143 Tryz.ld146 Tryz.st146 Tryz.ld148 Tryz.st148 Tryz.ld154 Tryz.st154 Tryz.ld159 Tryz.st159 Tryz.ld173 Tryz.st173 Tryz.ld183 Tryz.st183 Tryz.ld184 Tryz.st184 Tryz.ld187 Tryz.st187 Tryz.ld192 Tryz.st192 Tryz.ld195 Tryz.st195 Tryz.ld217 Tryz.st217 Tryz.ld222 Tryz.st222 Tryz.ld241 Tryz.st241 Tryz.ld248 Tryz.st248 Tryz.ld268 Tryz.st268 Tryz.ld272 Tryz.st272 Tryz.ld129 Tryz.st129 Tryz.ld31 Tryz.st31 Tryz.ld52 Tryz.st52 Tryz.ld70 Tryz.st70 Tryz.ld74 Tryz.st74 Tryz.ld93 Tryz.st93 Tryz.al129 Tryz.al31 Tryz.al52 Tryz.al70 Tryz.al74 Tryz.al93
attribute [local go_sem] Request.length_enc Request.ok_enc Request.all_get Request.all_set Request.kind_get Request.kind_set Request.blob_get Request.blob_set Request.items_get Request.items_set Request.pred_get Request.pred_set Request.slots_get Request.slots_set Item.length_enc Item.ok_enc Item.all_get Item.all_set Item.del_get Item.del_set Item.pred_get Item.pred_set Item.args_get Item.args_set GOp.length_enc GOp.ok_enc GOp.all_get GOp.all_set GOp.kind_get GOp.kind_set GOp.raw_get GOp.raw_set Reader.length_enc Reader.ok_enc Reader.all_get Reader.all_set Reader.buf_get Reader.buf_set Reader.at__get Reader.at__set Slot.length_enc Slot.ok_enc Slot.all_get Slot.all_set Slot.bound_get Slot.bound_set Slot.name_get Slot.name_set
attribute [local go_sem] size_put size_ext blk_put free_put blk_alloc free_alloc blk_drew free_drew blk_ext free_ext lookOr_some putOr_some segAt_some cellAt_some storeIn_some put_put put_alloc_new length_arr ok_arr_u8 ok_arr_u32 ok_arr_u64 ok_arr_i64 ok_arr_sl cellsV_agg cellsV_int cellsV_bool cellsV_string cellsV_pointer cellsV_slice cellsV_sl ok_int ok_bool ok_string ok_pointer ok_slice ok_sl toList_arr seg_arr set_arr nth_splice nth_splice0 seg_splice seg_splice0 splice_splice splice_splice0 length_splice_if
attribute [local go_sem ↓] execOp_box
attribute [local go_sem] box_run nth_arr_u8 put_arr_u8 blk_drewN free_drewN put_drewN blk_raw free_raw
theorem ScriptAt.mono {W W' : World} {a : Option Addr} {len cap : Nat} {g : Nat → GOp} {dt : Nat → List UInt8} (h : ScriptAt W a len cap g dt) (he : W.Extends W') : ScriptAt W' a len cap g dt := by
  obtain ⟨h1, h2, h3, h4⟩ := h
  refine ⟨h1, h2, fun i hi => ?_, fun h0 => ?_⟩
  · obtain ⟨⟨e1, e2, e3, e4⟩, e5⟩ := h3 i hi
    refine ⟨⟨e1, e2, e3, fun h0 => ?_⟩, e5⟩
    obtain ⟨bp, op, C, ha, hC, hl⟩ := e4 h0
    exact ⟨bp, op, C, ha, (he.blk (blk_lt hC)).trans hC, hl⟩
  · obtain ⟨b, o, C, ha, hC, hl⟩ := h4 h0
    exact ⟨b, o, C, ha, (he.blk (blk_lt hC)).trans hC, hl⟩
set_option maxRecDepth 100000 in
theorem frame25 (f : Nat → Value) : frameN 25 f = #[f 0, f 1, f 2, f 3, f 4, f 5, f 6, f 7, f 8, f 9, f 10, f 11, f 12, f 13, f 14, f 15, f 16, f 17, f 18, f 19, f 20, f 21, f 22, f 23, f 24] := by kernel_rfl
def zsI (w : World) (a : Option Addr) (len cap : Nat) (g : Nat → GOp) (f : Nat → Value) (W : World) : Prop :=
  f 0 = .slice a len cap ∧ W = w ∧ ∃ (i n : Nat), i ≤ len ∧ f 4 = .int .i64 (i : Nat) ∧ f 3 = .int .i64 (n : Nat) ∧ n ≤ 65536 ∧ ∀ j, j < i → (g j).raw.len ≤ 65536
set_option maxRecDepth 20000 in
set_option maxHeartbeats 2000000 in
theorem small_any (w : World) (a : Option Addr) (len cap : Nat) (g : Nat → GOp) (dt : Nat → List UInt8) (hS : ScriptAt w a len cap g dt) :
    Calls Tryz.prog 12 #[.slice a len cap] w fun e w' => (∃ r : Bool, e = .returned (.bool r) ∧ (r = true → len ≤ 65536 ∧ ∀ i, i < len → (g i).raw.len ≤ 65536)) ∧ w' = w := by
  have HS : Hid (ScriptAt w a len cap g dt) := hS
  have hm : len ≤ 9223372036854775807 := by have := hS.1; have := hS.2.1; simp only [maxLen] at this; omega
  clear hS
  by_cases hl : len ≤ 65536
  · have hl' : ¬ (65536 : Int) < (len : Int) := by omega
    go_enter Tryz.func12, Tryz.ntmps12
    go_wp2_with fail
    refine wp_loop_f 25 (zsI w a len cap g) (fun f _ => len - (intOf (f 4)).toNat) rfl ?_ ?_
    · exact ⟨rfl, rfl, 0, len, by omega, rfl, rfl, hl, fun j h => by omega⟩
    intro F W hrel
    obtain ⟨h0, rfl, i, n, hi, h4, h3, hn, hall⟩ := hrel
    have H4 : Hid (F 4 = .int .i64 (i : Nat)) := h4
    have HA : Hid (∀ j, j < i → (g j).raw.len ≤ 65536) := hall
    rw [frame25, h0, h3, h4]
    clear h0 h3 h4 hall
    by_cases hil : i < len
    · obtain ⟨b, o, C, rfl, hC, hlen, hseg⟩ := HS.out.2.2.2 (by omega)
      have hs := hseg i hil
      have hdl := HS.out.2.2.1 i hil
      obtain ⟨s, hsd⟩ : ∃ s, s = (g i).raw := ⟨_, rfl⟩
      have hnth : nth C (o + i * 2 + 1) = some (Sl.val s) := by
        have h1 := GOp.raw_get (g i)
        rw [← hs, ← hsd] at h1
        unfold nth at h1 ⊢
        unfold seg at h1
        rw [List.getElem?_take, if_pos (by omega), List.getElem?_drop] at h1
        exact h1
      have hsm : s.len ≤ 140737488351232 := by rw [hsd]; exact hdl.2
      obtain ⟨sa, sl, sc⟩ := s
      have HSD : Hid ((⟨sa, sl, sc⟩ : Sl) = (g i).raw) := hsd
      simp only [Sl.val] at hnth hsm
      clear hseg hs hdl hsd
      have q0 : (0 : Int) ≤ (i : Int) := by omega
      have q1 : (i : Int) < (len : Int) := by omega
      have q2 : ((i : Int)).toNat = i := by omega
      by_cases hbig : n + sl ≤ 65536
      · go_wp2_with fail
        refine ⟨rfl, rfl, ?_, ?_⟩
        · refine ⟨rfl, rfl, i + 1, n + sl, by omega, ?_, ?_, hbig, fun j hj => ?_⟩
          · show Value.int .i64 _ = _
            go_num
          · show Value.int .i64 _ = _
            go_num
          · by_cases hji : j = i
            · subst hji; rw [← HSD.out]; show sl ≤ 65536; omega
            · exact HA.out j (by omega)
        · show len - (intOf (Value.int .i64 _)).toNat < len - (intOf (F 4)).toNat
          rw [H4.out]
          simp [intOf]; omega
      · go_wp2_with fail
        go_ret
        exact ⟨⟨false, rfl, fun h => by simp at h⟩, rfl⟩
    · obtain rfl : i = len := by omega
      go_wp2_with fail
      go_ret
      exact ⟨⟨true, rfl, fun _ => ⟨hl, HA.out⟩⟩, rfl⟩
  · have hl' : (65536 : Int) < (len : Int) := by omega
    go_enter Tryz.func12, Tryz.ntmps12
    go_wp2_with fail
    go_ret
    exact ⟨⟨false, rfl, fun h => by simp at h⟩, rfl⟩
def encR (s : Sl) : List Value := [Sl.val s]
theorem encR_len (s : Sl) : (encR s).length = 1 := rfl
theorem encR_one (s : Sl) : (encR s).all (fun v => v.oneCell') = true := rfl
theorem bslice24 (w : World) (a : Option Addr) (n c : Nat) : (bsliceOp 28 1 #[(0, .slice a n c)]).run Tryz.prog w = .ok (.value (.slice (some ⟨w.heap.size, 0, none⟩) 1 1)) (w.alloc (.cells #[.slice a n c] 31)) := by kernel_rfl
/-- The list that sends gives: an own row of slices, each some operation's bytes. -/
def SendsAt (w W : World) (len : Nat) (g : Nat → GOp) (a : Option Addr) (n c : Nat) (L : List Sl) : Prop := W.ownsRow w.heap.size 31 1 (.slice a n c) L.length (L.flatMap encR) ∧ n = L.length ∧ n ≤ len ∧ (∀ s ∈ L, ∃ j, j < len ∧ s = (g j).raw) ∧ w.Extends W
def SendsPost (w : World) (len : Nat) (g : Nat → GOp) (e : Ending) (W' : World) : Prop := ∃ a' n' c' L, e = .returned (.slice a' n' c') ∧ SendsAt w W' len g a' n' c' L
def seI (w : World) (a : Option Addr) (len cap : Nat) (g : Nat → GOp) (f : Nat → Value) (W : World) : Prop :=
  f 0 = .slice a len cap ∧ ∃ (i : Nat) (a' : Option Addr) (n' c' : Nat), i ≤ len ∧ f 4 = .int .i64 (i : Nat) ∧ f 3 = .slice a' n' c' ∧ Hid (n' ≤ i ∧ ∃ L, SendsAt w W len g a' n' c' L)
attribute [local go_sem] bslice24
attribute [local go_sem ↓] execOp_bslice
set_option maxRecDepth 20000 in
set_option maxHeartbeats 2000000 in
theorem sends_any (w : World) (a : Option Addr) (len cap : Nat) (g : Nat → GOp) (dt : Nat → List UInt8) (hS : ScriptAt w a len cap g dt) (hl : len ≤ 65536) :
    Calls Tryz.prog 15 #[.slice a len cap] w (SendsPost w len g) := by
  have HS : Hid (ScriptAt w a len cap g dt) := hS
  clear hS
  go_enter Tryz.func15, Tryz.ntmps15
  go_wp2_with fail
  refine wp_loop_f 26 (seI w a len cap g) (fun f _ => len - (intOf (f 4)).toNat) rfl ?_ ?_
  · exact ⟨rfl, 0, none, 0, 0, by omega, rfl, rfl, by omega, [], ownsNil _ _ _ _, rfl, by omega, fun s hs => by simp at hs, ext_Ext (Ext.refl _)⟩
  intro F W hrel
  obtain ⟨h0, i, a', n', c', hi, h4, h3, HQ⟩ := hrel
  have H4 : Hid (F 4 = .int .i64 (i : Nat)) := h4
  rw [frame26, h0, h3, h4]
  clear h0 h3 h4
  by_cases hil : i < len
  · obtain ⟨b, o, C, rfl, hC, hlen, hseg⟩ := HS.out.2.2.2 (by omega)
    have hs := hseg i hil
    obtain ⟨kd, sr, hg⟩ : ∃ kd sr, g i = ⟨kd, sr⟩ := ⟨_, _, rfl⟩
    rw [hg] at hs
    have u0 : nth C (o + i * 2) = some (.int .i64 kd) := nth_in (j := 0) hs (show nth (GOp.enc ⟨kd, sr⟩) 0 = some (.int .i64 kd) from rfl) (by omega)
    have u1 : nth C (o + i * 2 + 1) = some (Sl.val sr) := nth_in (j := 1) hs (show nth (GOp.enc ⟨kd, sr⟩) 1 = some (Sl.val sr) from rfl) (by omega)
    obtain ⟨sa, sl, sc⟩ := sr
    simp only [Sl.val] at u1
    obtain ⟨hni, L, hrow, hnL, hnl, hall, hE⟩ := HQ.out
    have hCW : blk W b = some C := (hE.blk (blk_lt hC)).trans hC
    have q0 : (0 : Int) ≤ (i : Int) := by omega
    have q1 : (i : Int) < (len : Int) := by omega
    have q2 : ((i : Int)).toNat = i := by omega
    have q3 : o + i * 2 + 1 < C.length := by omega
    have q4 : o + i * 2 < C.length := by omega
    by_cases hk : kd = 0
    · have hx1 : W.Extends (W.alloc (.cells #[.slice sa sl sc] 31)) := extends_alloc (ext_Ext (Ext.refl _)) _
      obtain ⟨v', V3, hrun, ho, hgr, _⟩ := appG encR 1 24 28 31 Tryz.underlying28 info27 encR_len encR_one (by omega) (by omega) w.heap.size (W.alloc (.cells #[.slice sa sl sc] 31)) 28 (.slice a' n' c') L ⟨sa, sl, sc⟩ W.heap.size 1 (row_keep hrow (fun k hk => hx1.block k (row_at hrow k hk).2.1)) ((blk_alloc _ _ _ _).trans (if_pos rfl)) (Nat.le_trans hE.size hx1.size) (by omega)
      obtain ⟨a'', c'', rfl⟩ := row_val ho
      have hm1 : (L ++ [(⟨sa, sl, sc⟩ : Sl)]).length = n' + 1 := by rw [List.length_append, List.length_singleton, hnL]
      rw [hm1] at hrun
      have HQ' : Hid (n' + 1 ≤ i + 1 ∧ ∃ L, SendsAt w V3 len g a'' (n' + 1) c'' L) := by
        refine ⟨by omega, _, by rw [← hm1]; exact ho, hm1.symm, by omega, fun s hs => ?_, grown_ext (hE.trans hx1) hgr (fun k hk => (row_at hrow k hk).1)⟩
        rcases List.mem_append.1 hs with h | h
        · exact hall s h
        · refine ⟨i, hil, ?_⟩
          rw [List.mem_singleton.1 h, hg]
      subst hk
      clear hC hseg hs hrow hall hE hx1 ho hgr HQ hg hm1 hnL
      go_wp2_with (at_builtin; refine wpList_append_run rfl _ _ 28 rfl _ _ _ _ rfl rfl hrun ?_)
      refine ⟨rfl, rfl, ⟨rfl, i + 1, a'', n' + 1, c'', by omega, ?_, rfl, HQ'⟩, ?_⟩
      · show Value.int .i64 _ = _
        go_num
      · show len - (intOf (Value.int .i64 _)).toNat < len - (intOf (F 4)).toNat
        rw [H4.out]
        simp [intOf]; omega
    · have hkb : (kd == 0) = false := by simp [hk]
      have HQ' : Hid (n' ≤ i + 1 ∧ ∃ L, SendsAt w W len g a' n' c' L) := ⟨by omega, HQ.out.2⟩
      clear hC hseg hs hrow hall hE HQ hg hnL
      go_wp2_with fail
      refine ⟨rfl, rfl, ⟨rfl, i + 1, a', n', c', by omega, ?_, rfl, HQ'⟩, ?_⟩
      · show Value.int .i64 _ = _
        go_num
      · show len - (intOf (Value.int .i64 _)).toNat < len - (intOf (F 4)).toNat
        rw [H4.out]
        simp [intOf]; omega
  · obtain rfl : i = len := by omega
    have hin' : ¬ ((i : Int) < (i : Int)) := by omega
    have HP : Hid (SendsPost w i g (.returned (.slice a' n' c')) W) := by
      obtain ⟨_, L, h⟩ := HQ.out
      exact ⟨_, _, _, L, rfl, h⟩
    clear HQ
    go_wp2_with fail
    go_ret
    exact HP.out
end Go.Proofs.Qxb6500787aGreat
