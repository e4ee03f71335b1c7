import Derived.Test.Qxb6500789aYl
import Derived.StillTailTactics
import Derived.Deep.QuietTactic
import Derived.BigQuiet
import Derived.Deep.RegionHeld
import Derived.Deep.CutRange
import Derived.Laws.ResultCell
import Derived.Laws.Rows
import Derived.DeepKeys
import Derived.DataBytes
import Derived.Laws.StructEq
import Derived.Laws.AppendOwn
import Derived.Laws.MakeOwn
import Derived.Lib.AppendStr
set_option linter.unusedSimpArgs false
set_option linter.unusedVariables false
namespace Go.Proofs.Qxb6500789a
open Go.RowKit Go.Blk
attribute [local go_sem ↓] execOp_load execOp_store execOp_alloc
attribute [local go_sem] Try.ld29 Try.st29 Try.ld3 Try.st3 Try.ld9 Try.st9 Try.ld30 Try.st30 Try.ld34 Try.st34 Try.ld35 Try.st35 Try.ld36 Try.st36 Try.ld37 Try.st37 Try.ld44 Try.st44 Try.ld45 Try.st45 Try.ld54 Try.st54 Try.ld55 Try.st55 Try.ld74 Try.st74 Try.ld80 Try.st80 Try.ld84 Try.st84 Try.ld106 Try.st106 Try.ld107 Try.st107 Try.ld4 Try.st4 Try.ld121 Try.st121 Try.ld2 Try.st2 Try.ld5 Try.st5 Try.ld12 Try.st12 Try.ld21 Try.st21 Try.ld22 Try.st22 Try.ld24 Try.st24 Try.ld26 Try.st26 Try.ld63 Try.st63 Try.ld71 Try.st71 Try.ld103 Try.st103 Try.ld130 Try.st130 Try.ld133 Try.st133 Try.ld140 Try.st140 Try.ld152 Try.st152 Try.ld39 Try.st39 Try.ld32 Try.st32 Try.ld41 Try.st41 Try.ld47 Try.st47 Try.ld57 Try.st57 Try.ld62 Try.st62 Try.ld76 Try.st76 Try.ld82 Try.st82 Try.ld86 Try.st86 Try.ld109 Try.st109 Try.ld115 Try.st115 Try.ld123 Try.st123 Try.ld135 Try.st135 Try.al39 Try.al32 Try.al41 Try.al47 Try.al57 Try.al62 Try.al76 Try.al82 Try.al86 Try.al109 Try.al115 Try.al123 Try.al135
attribute [local go_sem] Answer.length_enc Answer.ok_enc Answer.all_get Answer.all_set Answer.code_get Answer.code_set Answer.n_get Answer.n_set Answer.name_get Answer.name_set Answer.rows_get Answer.rows_set GOp.length_enc GOp.ok_enc GOp.all_get GOp.all_set GOp.kind_get GOp.kind_set GOp.rel_get GOp.rel_set GOp.mask_get GOp.mask_set GOp.t_get GOp.t_set GOp.n_get GOp.n_set GOp.name_get GOp.name_set Store.length_enc Store.ok_enc Store.all_get Store.all_set Store.names_get Store.names_set Store.rels_get Store.rels_set GRel.length_enc GRel.ok_enc GRel.all_get GRel.all_set GRel.arity_get GRel.arity_set GRel.masks_get GRel.masks_set GRel.rows_get GRel.rows_set Row.length_enc Row.ok_enc Row.all_get Row.all_set Row.t_get Row.t_set Row.mark_get Row.mark_set View.length_enc View.ok_enc View.all_get View.all_set View.names_get View.names_set View.rels_get View.rels_set Symtab.length_enc Symtab.ok_enc Symtab.all_get Symtab.all_set Symtab.names_get Symtab.names_set Symtab.table_get Symtab.table_set StoreTuplestore.length_enc StoreTuplestore.ok_enc StoreTuplestore.all_get StoreTuplestore.all_set StoreTuplestore.syms_get StoreTuplestore.syms_set StoreTuplestore.rels_get StoreTuplestore.rels_set StoreTuplestore.syms_names_get StoreTuplestore.syms_names_set StoreTuplestore.syms_table_get StoreTuplestore.syms_table_set Relation.length_enc Relation.ok_enc Relation.all_get Relation.all_set Relation.arity_get Relation.arity_set Relation.slots_get Relation.slots_set Relation.live_get Relation.live_set Relation.idx_get Relation.idx_set Slot.length_enc Slot.ok_enc Slot.all_get Slot.all_set Slot.t_get Slot.t_set Slot.mark_get Slot.mark_set Slot.live_get Slot.live_set RelView.length_enc RelView.ok_enc RelView.all_get RelView.all_set RelView.arity_get RelView.arity_set RelView.rows_get RelView.rows_set RelView.marks_get RelView.marks_set RelView.indexed_get RelView.indexed_set Index.length_enc Index.ok_enc Index.all_get Index.all_set Index.mask_get Index.mask_set Index.heads_get Index.heads_set Index.next_get Index.next_set
attribute [local go_sem] size_put size_ext blk_put free_put blk_alloc free_alloc blk_drew free_drew blk_ext free_ext lookOr_some putOr_some segAt_some cellAt_some storeIn_some put_put put_alloc_new length_arr ok_arr_u8 ok_arr_u32 ok_arr_u64 ok_arr_i64 ok_arr_sl cellsV_agg cellsV_int cellsV_bool cellsV_string cellsV_pointer cellsV_slice cellsV_sl ok_int ok_bool ok_string ok_pointer ok_slice ok_sl toList_arr seg_arr set_arr nth_splice nth_splice0 seg_splice seg_splice0 splice_splice splice_splice0 length_splice_if
attribute [local go_sem ↓] execOp_box
attribute [local go_sem] box_run nth_arr_u8 put_arr_u8 blk_drewN free_drewN put_drewN blk_raw free_raw
set_option maxRecDepth 100000 in
theorem frame153 (f : Nat → Value) : frameN 153 f = #[f 0, f 1, f 2, f 3, f 4, f 5, f 6, f 7, f 8, f 9, f 10, f 11, f 12, f 13, f 14, f 15, f 16, f 17, f 18, f 19, f 20, f 21, f 22, f 23, f 24, f 25, f 26, f 27, f 28, f 29, f 30, f 31, f 32, f 33, f 34, f 35, f 36, f 37, f 38, f 39, f 40, f 41, f 42, f 43, f 44, f 45, f 46, f 47, f 48, f 49, f 50, f 51, f 52, f 53, f 54, f 55, f 56, f 57, f 58, f 59, f 60, f 61, f 62, f 63, f 64, f 65, f 66, f 67, f 68, f 69, f 70, f 71, f 72, f 73, f 74, f 75, f 76, f 77, f 78, f 79, f 80, f 81, f 82, f 83, f 84, f 85, f 86, f 87, f 88, f 89, f 90, f 91, f 92, f 93, f 94, f 95, f 96, f 97, f 98, f 99, f 100, f 101, f 102, f 103, f 104, f 105, f 106, f 107, f 108, f 109, f 110, f 111, f 112, f 113, f 114, f 115, f 116, f 117, f 118, f 119, f 120, f 121, f 122, f 123, f 124, f 125, f 126, f 127, f 128, f 129, f 130, f 131, f 132, f 133, f 134, f 135, f 136, f 137, f 138, f 139, f 140, f 141, f 142, f 143, f 144, f 145, f 146, f 147, f 148, f 149, f 150, f 151, f 152] := by kernel_rfl
set_option maxRecDepth 20000 in
set_option maxHeartbeats 8000000 in
theorem law8_any (W : World) (a : Option Addr) (len cap : Nat) (g : Nat → GOp) (hS : ScriptAt W a len cap g) :
    Calls Try.prog 8 #[.slice a len cap] W fun e W' => e = .returned (.bool true) ∧ W.Extends W' := by
  have HS : Hid (ScriptAt W a len cap g) := hS
  have hm : len ≤ 9223372036854775807 := by have := hS.1; have := hS.2.1; simp only [maxLen] at this; omega
  have hsm := small_any W a len cap g hS
  clear hS
  go_enter Try.func8, Try.ntmps8
  go_wp2_with fail
  refine hsm.mono ?_
  rintro e W1 ⟨⟨r, rfl, hr⟩, rfl⟩
  cases r with
  | false =>
    dsimp only
    go_wp2_with fail
    go_ret
    exact ⟨rfl, ext_Ext (Ext.refl _)⟩
  | true =>
  obtain ⟨hlen, hnames⟩ := hr rfl
  have HNAM : Hid (∀ i, i < len → (g i).name.size ≤ 65536) := hnames
  clear hr hnames hsm
  dsimp only
  go_wp2_with fail
  refine (newS_any W1.heap.size (fun _ => .no) W1 (Nat.le_refl _)).mono ?_
  rintro e W2 ⟨bs, O2, rfl, hx2, hk2, hbs, hst2⟩
  have HLI : Hid (∃ st, LI W1 W1.heap.size bs W2 st) := ⟨_, O2, hst2, hx2, hk2⟩
  obtain ⟨B, hB⟩ : ∃ B, B = W1.heap.size := ⟨_, rfl⟩
  rw [← hB] at HLI
  clear hx2 hk2 hbs hst2 hB
  dsimp only
  go_wp2_with fail
  refine wp_loop_f 153 (l5I W1 a len cap B bs) (fun f _ => len - (intOf (f 4)).toNat) rfl ⟨rfl, rfl, 0, by omega, rfl, HLI⟩ ?_
  clear HLI
  intro F V hrel
  obtain ⟨f0, f3, i, hi, f4, HLI⟩ := hrel
  have H4 : Hid (F 4 = .int .i64 (i : Nat)) := f4
  rw [frame153, f0, f3, f4]
  clear f0 f3 f4
  by_cases hil : i < len
  rotate_left 1
  · obtain rfl : i = len := by omega
    have hil' : ¬ (i : Int) < (i : Int) := by omega
    obtain ⟨st, O, _, hx, _⟩ := HLI.out
    have HX := hid_of hx
    clear hx HLI
    go_wp2_with fail
    go_ret
    exact ⟨rfl, HX.out⟩
  obtain ⟨st, hli⟩ := HLI.out
  have hxV : W1.Extends V := by obtain ⟨_, _, h, _⟩ := hli; exact h
  obtain ⟨b, o, C, rfl, hC, hlC, hseg⟩ := (HS.out.mono hxV).2.2.2 (by omega)
  have hs := hseg i hil
  obtain ⟨op, hop⟩ : ∃ op, op = g i := ⟨_, rfl⟩
  rw [← hop] at hs
  have hmask : op.mask ≤ 9223372036854775807 := by rw [hop]; exact (HS.out.2.2.1 i hil).2.1
  have hnm : (nmO op).length ≤ 1000000 := by
    have := HNAM.out i hil
    rw [← hop] at this
    unfold nmO
    have h2 : op.name.data.toList.length = op.name.size := Array.length_toList
    omega
  have hle : (i + 1) * 9 ≤ len * 9 := Nat.mul_le_mul_right _ (by omega)
  have q0 : (0 : Int) ≤ (i : Int) := by omega
  have q1 : (i : Int) < (len : Int) := by omega
  have q2 : ((i : Int)).toNat = i := by omega
  have q3 : o + i * 9 + 9 ≤ C.length := by omega
  have q4 : o + i * 9 < C.length := by omega
  have HLV : Hid (LI W1 B bs V st) := hli
  clear hseg hop hli hxV HLI
  go_upto_region 8 with fail
  have lC := blk_lt hC
  refine wp_world (fun W3 => blk W3 V.heap.size = some (GOp.enc op) ∧ V.Extends W3 ∧ W3.heap.size = V.heap.size + 1) ⟨?_, ?_, ?_⟩ ?_
  · rw [blk_alloc, if_pos rfl]
  · exact extends_alloc (ext_Ext (Ext.refl _)) _
  · rw [World.size_alloc]
  rintro W3 ⟨hb5, hx3, hsz3⟩
  obtain ⟨O3, hst3, hW3, hno3, hnew3⟩ := HLV.out.new hx3
  obtain ⟨b5, e5⟩ : ∃ b5, b5 = V.heap.size := ⟨_, rfl⟩
  have ho5 : O3 b5 = .no := hnew3 _ (by omega)
  have l5 : b5 < W3.heap.size := by omega
  rw [← e5] at hb5 ⊢
  have HST3 := hid_of hst3
  have HX3 := hid_of hW3
  have HNO3 := hid_of hno3
  have HO5 := hid_of ho5
  clear hs hC hlC hle lC hx3 hsz3 hst3 hW3 hno3 hnew3 e5 ho5 HLV q3 q4
  have hcap := HST3.out.caps op.rel
  have hsy3 := symsS_any B O3 W3 bs st HST3.out
  have hrl3 := relsS_any B O3 W3 bs st HST3.out
  have hlk3 := lookS_any B O3 W3 bs st HST3.out (nmO op) hnm
  obtain ⟨sy, hsy⟩ : ∃ sy, sy = st.names.length := ⟨_, rfl⟩
  obtain ⟨rl, hrl⟩ : ∃ rl, rl = st.rels.length := ⟨_, rfl⟩
  obtain ⟨lk, hlk⟩ : ∃ lk, lk = lookupF st.names (nmO op) := ⟨_, rfl⟩
  rw [← hsy] at hsy3
  rw [← hrl] at hrl3
  rw [← hlk] at hlk3
  rw [← hsy, ← hrl] at hcap
  have HSY := hid_of hsy
  have HRL := hid_of hrl
  have HLK := hid_of hlk
  obtain ⟨nz, hnz⟩ : ∃ nz, nz = op.name.size := ⟨_, rfl⟩
  have hnz' := hnz.symm
  have HNZ : Hid (nz = (nmO op).length) := by show nz = op.name.data.toList.length; rw [hnz, Array.length_toList]; rfl
  have HNS : Hid (op.name = ⟨(nmO op).toArray⟩) := (nm_str op.name).symm
  clear hsy hrl hlk hnz
  go_wp2_with fail
  refine hsy3.mono ?_
  rintro e W4 ⟨rfl, rfl⟩
  dsimp only
  go_wp2_with fail
  refine hrl3.mono ?_
  rintro e W4 ⟨rfl, rfl⟩
  dsimp only
  go_wp2_with fail
  rw [HNS.out]
  refine hlk3.mono ?_
  rintro e W4 ⟨rfl, hx4⟩
  have hb54 : blk W4 b5 = some (GOp.enc op) := (hx4.blk (blk_lt hb5)).trans hb5
  have HST4 := hid_of (HST3.out.ext hx4)
  have HX4 := hid_of (HX3.out.trans hx4)
  have l54 : b5 < W4.heap.size := Nat.lt_of_lt_of_le l5 hx4.size
  clear hx4 HST3 HX3 hb5 l5 hsy3 hrl3 hlk3
  rw [← HNS.out]
  dsimp only
  have hlen4 := lenS_any B O3 W4 bs st HST4.out op.rel
  obtain ⟨ql, hql⟩ : ∃ ql, ql = lenF st op.rel := ⟨_, rfl⟩
  rw [← hql] at hlen4 hcap
  have HQL := hid_of hql
  clear hql
  go_wp2_with fail
  refine hlen4.mono ?_
  rintro e W5 ⟨rfl, rfl⟩
  clear hlen4
  dsimp only
  have hcon := contains_any B O3 W5 bs st HST4.out op.rel op.t
  obtain ⟨q, hq⟩ : ∃ q, q = containsF st op.rel op.t := ⟨_, rfl⟩
  rw [← hq] at hcon
  have HQ := hid_of hq
  clear hq
  go_wp2_with fail
  refine hcon.mono ?_
  rintro e W5' ⟨rfl, hx5⟩
  have hb55 : blk W5' b5 = some (GOp.enc op) := (hx5.blk (blk_lt hb54)).trans hb54
  have HST5 := hid_of (HST4.out.ext hx5)
  have HX5 := hid_of (HX4.out.trans hx5)
  clear hcon hx5 HST4 HX4 hb54 l54
  dsimp only
  have hplay := play_any B O3 W5' bs st HST5.out op hmask hnm
  go_wp2_with fail
  refine hplay.mono ?_
  rintro e W6 ⟨A, rfl, O6, st6, ts, hF6, hst6, hrow6, hPR⟩
  have hb56 := hF6.blk hb55 (by rw [HO5.out]; exact not_no)
  have hx6 := hF6.extends HX5.out HNO3.out
  have hno6 : ∀ k, k < W1.heap.size → O6 k = .no := fun k hk => hF6.no (Nat.lt_of_lt_of_le hk HX5.out.size) (HNO3.out k hk)
  have HPR := hid_of hPR
  have HLI6 : Hid (LI W1 B bs W6 st6) := ⟨O6, hst6, hx6, hno6⟩
  clear hplay hF6 hst6 hrow6 hPR hx6 hno6 HST5 HX5 HNO3 HO5 hb55
  dsimp only
  go_upto_region 13 with fail
  refine wp_world (fun W7 => blk W7 W6.heap.size = some (Answer.enc A) ∧ W6.Extends W7) ⟨?_, ?_⟩ ?_
  · rw [blk_alloc, if_pos rfl]
  · exact extends_alloc (ext_Ext (Ext.refl _)) _
  rintro W7 ⟨hb10, hx7⟩
  have hb57 : blk W7 b5 = some (GOp.enc op) := (hx7.blk (blk_lt hb56)).trans hb56
  obtain ⟨b10, e10⟩ : ∃ b10, b10 = W6.heap.size := ⟨_, rfl⟩
  rw [← e10] at hb10 ⊢
  have hli7 : LI W1 B bs W7 st6 := HLI6.out.ext hx7
  have HLI : Hid (∃ st, LI W1 B bs W7 st) := ⟨_, hli7⟩
  obtain ⟨O7, hst7, _, _⟩ := hli7
  have HS7 := hid_of hst7
  obtain ⟨k1, k2, k3, k4⟩ := hst7.caps op.rel
  obtain ⟨sy6, hsy6⟩ : ∃ sy, sy = st6.names.length := ⟨_, rfl⟩
  obtain ⟨rl6, hrl6⟩ : ∃ rl, rl = st6.rels.length := ⟨_, rfl⟩
  obtain ⟨l6, hl6⟩ : ∃ l, l = lenF st6 op.rel := ⟨_, rfl⟩
  rw [← hsy6] at k1
  rw [← hrl6] at k2
  rw [← hl6] at k3 k4
  have HSY6 := hid_of hsy6
  have HRL6 := hid_of hrl6
  have HL6 := hid_of hl6
  obtain ⟨ln6, lc6⟩ := l6
  dsimp only at k3 k4
  have k1' : ¬ (256 : Int) < (sy6 : Int) := by omega
  have k2' : ¬ (192 : Int) < (rl6 : Int) := by omega
  have k4' : ¬ (512 : Int) < ln6 := by omega
  clear hb56 hx7 e10 HLI6 hst7 hsy6 hrl6 hl6 k1 k2 k3 k4
  obtain ⟨has, ec⟩ := q
  obtain ⟨ln, lc⟩ := ql
  obtain ⟨ly, lke⟩ := lk
  obtain ⟨c1, c2, c3, c4⟩ := hcap
  dsimp only at c3 c4 ⊢
  by_cases hk0 : op.kind = 0
  · obtain ⟨hA, _⟩ := play_kind0 HPR.out hk0
    have hf := full0 (nm := nmO op) (by rw [← HSY.out]; exact c1)
    rw [← HLK.out, ← HSY.out, ← HNZ.out] at hf
    obtain ⟨cd, hcd⟩ : ∃ cd, cd = (internF st.names (nmO op)).2.1 := ⟨_, rfl⟩
    rw [← hcd] at hA hf
    have hac : A.code = cd := by rw [hA]; rfl
    dsimp only at hf
    clear hA hcd HPR HQ HQL HLK HSY HRL HNZ
    rcases hf with ⟨rfl, rfl, f3, rfl⟩ | ⟨f1, f2⟩
    · have f3' : (nz : Int) ≤ 64 := by omega
      have hl9 := lenS_any B O7 W7 bs st6 HS7.out op.rel
      rw [← HL6.out] at hl9
      have hsy9 := symsS_any B O7 W7 bs st6 HS7.out
      rw [← HSY6.out] at hsy9
      have hrl9 := relsS_any B O7 W7 bs st6 HS7.out
      rw [← HRL6.out] at hrl9
      go_wp2_with fail
      refine hl9.mono ?_
      rintro e W8 ⟨rfl, rfl⟩
      dsimp only
      go_wp2_with fail
      refine hsy9.mono ?_
      rintro e W8 ⟨rfl, rfl⟩
      dsimp only
      go_wp2_with fail
      refine hrl9.mono ?_
      rintro e W8 ⟨rfl, rfl⟩
      dsimp only
      go_wp2_with fail
      refine ⟨rfl, rfl, ⟨rfl, rfl, i + 1, by omega, ?_, HLI⟩, ?_⟩
      · show Value.int .i64 _ = _
        go_num
      · show len - (intOf (Value.int .i64 _)).toNat < len - (intOf (F 4)).toNat
        rw [H4.out]
        simp [intOf]; omega
    · have f1b : (cd == 3) = false := by simp [f1]
      by_cases g1 : lke = 2
      · subst g1
        by_cases g2 : 64 < nz
        · have g2' : ¬ (nz : Int) ≤ 64 := by omega
          have hl9 := lenS_any B O7 W7 bs st6 HS7.out op.rel
          rw [← HL6.out] at hl9
          have hsy9 := symsS_any B O7 W7 bs st6 HS7.out
          rw [← HSY6.out] at hsy9
          have hrl9 := relsS_any B O7 W7 bs st6 HS7.out
          rw [← HRL6.out] at hrl9
          go_wp2_with fail
          refine hl9.mono ?_
          rintro e W8 ⟨rfl, rfl⟩
          dsimp only
          go_wp2_with fail
          refine hsy9.mono ?_
          rintro e W8 ⟨rfl, rfl⟩
          dsimp only
          go_wp2_with fail
          refine hrl9.mono ?_
          rintro e W8 ⟨rfl, rfl⟩
          dsimp only
          go_wp2_with fail
          refine ⟨rfl, rfl, ⟨rfl, rfl, i + 1, by omega, ?_, HLI⟩, ?_⟩
          · show Value.int .i64 _ = _
            go_num
          · show len - (intOf (Value.int .i64 _)).toNat < len - (intOf (F 4)).toNat
            rw [H4.out]
            simp [intOf]; omega
        · have g2' : (nz : Int) ≤ 64 := by omega
          have g3 : ¬ (sy : Int) = 256 := by omega
          have g3b : ((sy : Int) == 256) = false := by simp; omega
          have hl9 := lenS_any B O7 W7 bs st6 HS7.out op.rel
          rw [← HL6.out] at hl9
          have hsy9 := symsS_any B O7 W7 bs st6 HS7.out
          rw [← HSY6.out] at hsy9
          have hrl9 := relsS_any B O7 W7 bs st6 HS7.out
          rw [← HRL6.out] at hrl9
          go_wp2_with fail
          refine hl9.mono ?_
          rintro e W8 ⟨rfl, rfl⟩
          dsimp only
          go_wp2_with fail
          refine hsy9.mono ?_
          rintro e W8 ⟨rfl, rfl⟩
          dsimp only
          go_wp2_with fail
          refine hrl9.mono ?_
          rintro e W8 ⟨rfl, rfl⟩
          dsimp only
          go_wp2_with fail
          refine ⟨rfl, rfl, ⟨rfl, rfl, i + 1, by omega, ?_, HLI⟩, ?_⟩
          · show Value.int .i64 _ = _
            go_num
          · show len - (intOf (Value.int .i64 _)).toNat < len - (intOf (F 4)).toNat
            rw [H4.out]
            simp [intOf]; omega
      · have g1b : (lke == 2) = false := by simp [g1]
        have hl9 := lenS_any B O7 W7 bs st6 HS7.out op.rel
        rw [← HL6.out] at hl9
        have hsy9 := symsS_any B O7 W7 bs st6 HS7.out
        rw [← HSY6.out] at hsy9
        have hrl9 := relsS_any B O7 W7 bs st6 HS7.out
        rw [← HRL6.out] at hrl9
        go_wp2_with fail
        refine hl9.mono ?_
        rintro e W8 ⟨rfl, rfl⟩
        dsimp only
        go_wp2_with fail
        refine hsy9.mono ?_
        rintro e W8 ⟨rfl, rfl⟩
        dsimp only
        go_wp2_with fail
        refine hrl9.mono ?_
        rintro e W8 ⟨rfl, rfl⟩
        dsimp only
        go_wp2_with fail
        refine ⟨rfl, rfl, ⟨rfl, rfl, i + 1, by omega, ?_, HLI⟩, ?_⟩
        · show Value.int .i64 _ = _
          go_num
        · show len - (intOf (Value.int .i64 _)).toNat < len - (intOf (F 4)).toNat
          rw [H4.out]
          simp [intOf]; omega
  have hk0b : (op.kind == 0) = false := by simp [hk0]
  by_cases hk6 : op.kind = 6
  · obtain ⟨hA, _⟩ := play_kind6 HPR.out hk6
    have hf := full6 (st := st) (id := op.rel) (t := op.t) (by rw [← HQL.out]; exact c4)
    rw [← HQL.out, ← HQ.out] at hf
    obtain ⟨cd, hcd⟩ : ∃ cd, cd = insF st op.rel op.t := ⟨_, rfl⟩
    rw [← hcd] at hA hf
    have hac : A.code = cd := by rw [hA]; rfl
    dsimp only at hf
    clear hA hcd HPR HQ HQL HLK HSY HRL HNZ
    rcases hf with ⟨rfl, rfl, rfl, rfl⟩ | ⟨f1, f2⟩
    · skip
      have hl9 := lenS_any B O7 W7 bs st6 HS7.out op.rel
      rw [← HL6.out] at hl9
      have hsy9 := symsS_any B O7 W7 bs st6 HS7.out
      rw [← HSY6.out] at hsy9
      have hrl9 := relsS_any B O7 W7 bs st6 HS7.out
      rw [← HRL6.out] at hrl9
      go_wp2_with fail
      refine hl9.mono ?_
      rintro e W8 ⟨rfl, rfl⟩
      dsimp only
      go_wp2_with fail
      refine hsy9.mono ?_
      rintro e W8 ⟨rfl, rfl⟩
      dsimp only
      go_wp2_with fail
      refine hrl9.mono ?_
      rintro e W8 ⟨rfl, rfl⟩
      dsimp only
      go_wp2_with fail
      refine ⟨rfl, rfl, ⟨rfl, rfl, i + 1, by omega, ?_, HLI⟩, ?_⟩
      · show Value.int .i64 _ = _
        go_num
      · show len - (intOf (Value.int .i64 _)).toNat < len - (intOf (F 4)).toNat
        rw [H4.out]
        simp [intOf]; omega
    · have f1b : (cd == 4) = false := by simp [f1]
      by_cases g1 : ec = 0
      · subst g1
        cases has with
        | true =>
          have hl9 := lenS_any B O7 W7 bs st6 HS7.out op.rel
          rw [← HL6.out] at hl9
          have hsy9 := symsS_any B O7 W7 bs st6 HS7.out
          rw [← HSY6.out] at hsy9
          have hrl9 := relsS_any B O7 W7 bs st6 HS7.out
          rw [← HRL6.out] at hrl9
          go_wp2_with fail
          refine hl9.mono ?_
          rintro e W8 ⟨rfl, rfl⟩
          dsimp only
          go_wp2_with fail
          refine hsy9.mono ?_
          rintro e W8 ⟨rfl, rfl⟩
          dsimp only
          go_wp2_with fail
          refine hrl9.mono ?_
          rintro e W8 ⟨rfl, rfl⟩
          dsimp only
          go_wp2_with fail
          refine ⟨rfl, rfl, ⟨rfl, rfl, i + 1, by omega, ?_, HLI⟩, ?_⟩
          · show Value.int .i64 _ = _
            go_num
          · show len - (intOf (Value.int .i64 _)).toNat < len - (intOf (F 4)).toNat
            rw [H4.out]
            simp [intOf]; omega
        | false =>
          have g3 : ¬ ln = 512 := by simp at f2; exact f2
          have g3b : (ln == 512) = false := by simp [g3]
          have hl9 := lenS_any B O7 W7 bs st6 HS7.out op.rel
          rw [← HL6.out] at hl9
          have hsy9 := symsS_any B O7 W7 bs st6 HS7.out
          rw [← HSY6.out] at hsy9
          have hrl9 := relsS_any B O7 W7 bs st6 HS7.out
          rw [← HRL6.out] at hrl9
          go_wp2_with fail
          refine hl9.mono ?_
          rintro e W8 ⟨rfl, rfl⟩
          dsimp only
          go_wp2_with fail
          refine hsy9.mono ?_
          rintro e W8 ⟨rfl, rfl⟩
          dsimp only
          go_wp2_with fail
          refine hrl9.mono ?_
          rintro e W8 ⟨rfl, rfl⟩
          dsimp only
          go_wp2_with fail
          refine ⟨rfl, rfl, ⟨rfl, rfl, i + 1, by omega, ?_, HLI⟩, ?_⟩
          · show Value.int .i64 _ = _
            go_num
          · show len - (intOf (Value.int .i64 _)).toNat < len - (intOf (F 4)).toNat
            rw [H4.out]
            simp [intOf]; omega
      · have g1b : (ec == 0) = false := by simp [g1]
        have hl9 := lenS_any B O7 W7 bs st6 HS7.out op.rel
        rw [← HL6.out] at hl9
        have hsy9 := symsS_any B O7 W7 bs st6 HS7.out
        rw [← HSY6.out] at hsy9
        have hrl9 := relsS_any B O7 W7 bs st6 HS7.out
        rw [← HRL6.out] at hrl9
        go_wp2_with fail
        refine hl9.mono ?_
        rintro e W8 ⟨rfl, rfl⟩
        dsimp only
        go_wp2_with fail
        refine hsy9.mono ?_
        rintro e W8 ⟨rfl, rfl⟩
        dsimp only
        go_wp2_with fail
        refine hrl9.mono ?_
        rintro e W8 ⟨rfl, rfl⟩
        dsimp only
        go_wp2_with fail
        refine ⟨rfl, rfl, ⟨rfl, rfl, i + 1, by omega, ?_, HLI⟩, ?_⟩
        · show Value.int .i64 _ = _
          go_num
        · show len - (intOf (Value.int .i64 _)).toNat < len - (intOf (F 4)).toNat
          rw [H4.out]
          simp [intOf]; omega
  have hk6b : (op.kind == 6) = false := by simp [hk6]
  by_cases hk3 : op.kind = 3
  · obtain ⟨hA, _⟩ := play_kind3 HPR.out hk3
    have hf := full3 (st := st) (a := op.n) (by rw [← HRL.out]; exact c2)
    rw [← HRL.out] at hf
    obtain ⟨cd, hcd⟩ : ∃ cd, cd = (defF st op.n).2.1 := ⟨_, rfl⟩
    rw [← hcd] at hA hf
    have hac : A.code = cd := by rw [hA]; rfl
    clear hA hcd HPR HQ HQL HLK HSY HRL HNZ
    rcases hf with ⟨rfl, f1, f2, rfl⟩ | ⟨f1, f2⟩
    · skip
      have hl9 := lenS_any B O7 W7 bs st6 HS7.out op.rel
      rw [← HL6.out] at hl9
      have hsy9 := symsS_any B O7 W7 bs st6 HS7.out
      rw [← HSY6.out] at hsy9
      have hrl9 := relsS_any B O7 W7 bs st6 HS7.out
      rw [← HRL6.out] at hrl9
      go_wp2_with fail
      refine hl9.mono ?_
      rintro e W8 ⟨rfl, rfl⟩
      dsimp only
      go_wp2_with fail
      refine hsy9.mono ?_
      rintro e W8 ⟨rfl, rfl⟩
      dsimp only
      go_wp2_with fail
      refine hrl9.mono ?_
      rintro e W8 ⟨rfl, rfl⟩
      dsimp only
      go_wp2_with fail
      refine ⟨rfl, rfl, ⟨rfl, rfl, i + 1, by omega, ?_, HLI⟩, ?_⟩
      · show Value.int .i64 _ = _
        go_num
      · show len - (intOf (Value.int .i64 _)).toNat < len - (intOf (F 4)).toNat
        rw [H4.out]
        simp [intOf]; omega
    · have f1b : (cd == 5) = false := by simp [f1]
      by_cases g1 : 0 ≤ op.n
      · by_cases g2 : op.n ≤ 4
        · have g3 : ¬ (rl : Int) = 192 := by omega
          have g3b : ((rl : Int) == 192) = false := by simp; omega
          have hl9 := lenS_any B O7 W7 bs st6 HS7.out op.rel
          rw [← HL6.out] at hl9
          have hsy9 := symsS_any B O7 W7 bs st6 HS7.out
          rw [← HSY6.out] at hsy9
          have hrl9 := relsS_any B O7 W7 bs st6 HS7.out
          rw [← HRL6.out] at hrl9
          go_wp2_with fail
          refine hl9.mono ?_
          rintro e W8 ⟨rfl, rfl⟩
          dsimp only
          go_wp2_with fail
          refine hsy9.mono ?_
          rintro e W8 ⟨rfl, rfl⟩
          dsimp only
          go_wp2_with fail
          refine hrl9.mono ?_
          rintro e W8 ⟨rfl, rfl⟩
          dsimp only
          go_wp2_with fail
          refine ⟨rfl, rfl, ⟨rfl, rfl, i + 1, by omega, ?_, HLI⟩, ?_⟩
          · show Value.int .i64 _ = _
            go_num
          · show len - (intOf (Value.int .i64 _)).toNat < len - (intOf (F 4)).toNat
            rw [H4.out]
            simp [intOf]; omega
        · skip
          have hl9 := lenS_any B O7 W7 bs st6 HS7.out op.rel
          rw [← HL6.out] at hl9
          have hsy9 := symsS_any B O7 W7 bs st6 HS7.out
          rw [← HSY6.out] at hsy9
          have hrl9 := relsS_any B O7 W7 bs st6 HS7.out
          rw [← HRL6.out] at hrl9
          go_wp2_with fail
          refine hl9.mono ?_
          rintro e W8 ⟨rfl, rfl⟩
          dsimp only
          go_wp2_with fail
          refine hsy9.mono ?_
          rintro e W8 ⟨rfl, rfl⟩
          dsimp only
          go_wp2_with fail
          refine hrl9.mono ?_
          rintro e W8 ⟨rfl, rfl⟩
          dsimp only
          go_wp2_with fail
          refine ⟨rfl, rfl, ⟨rfl, rfl, i + 1, by omega, ?_, HLI⟩, ?_⟩
          · show Value.int .i64 _ = _
            go_num
          · show len - (intOf (Value.int .i64 _)).toNat < len - (intOf (F 4)).toNat
            rw [H4.out]
            simp [intOf]; omega
      · skip
        have hl9 := lenS_any B O7 W7 bs st6 HS7.out op.rel
        rw [← HL6.out] at hl9
        have hsy9 := symsS_any B O7 W7 bs st6 HS7.out
        rw [← HSY6.out] at hsy9
        have hrl9 := relsS_any B O7 W7 bs st6 HS7.out
        rw [← HRL6.out] at hrl9
        go_wp2_with fail
        refine hl9.mono ?_
        rintro e W8 ⟨rfl, rfl⟩
        dsimp only
        go_wp2_with fail
        refine hsy9.mono ?_
        rintro e W8 ⟨rfl, rfl⟩
        dsimp only
        go_wp2_with fail
        refine hrl9.mono ?_
        rintro e W8 ⟨rfl, rfl⟩
        dsimp only
        go_wp2_with fail
        refine ⟨rfl, rfl, ⟨rfl, rfl, i + 1, by omega, ?_, HLI⟩, ?_⟩
        · show Value.int .i64 _ = _
          go_num
        · show len - (intOf (Value.int .i64 _)).toNat < len - (intOf (F 4)).toNat
          rw [H4.out]
          simp [intOf]; omega
  have hk3b : (op.kind == 3) = false := by simp [hk3]
  obtain ⟨n3, n4, n5⟩ := play_codes HPR.out hk0 hk6 hk3
  have n3b : (A.code == 3) = false := by simp [n3]
  have n4b : (A.code == 4) = false := by simp [n4]
  have n5b : (A.code == 5) = false := by simp [n5]
  clear HPR HQ HQL HLK HSY HRL HNZ
  have hl9 := lenS_any B O7 W7 bs st6 HS7.out op.rel
  rw [← HL6.out] at hl9
  have hsy9 := symsS_any B O7 W7 bs st6 HS7.out
  rw [← HSY6.out] at hsy9
  have hrl9 := relsS_any B O7 W7 bs st6 HS7.out
  rw [← HRL6.out] at hrl9
  go_wp2_with fail
  refine hl9.mono ?_
  rintro e W8 ⟨rfl, rfl⟩
  dsimp only
  go_wp2_with fail
  refine hsy9.mono ?_
  rintro e W8 ⟨rfl, rfl⟩
  dsimp only
  go_wp2_with fail
  refine hrl9.mono ?_
  rintro e W8 ⟨rfl, rfl⟩
  dsimp only
  go_wp2_with fail
  refine ⟨rfl, rfl, ⟨rfl, rfl, i + 1, by omega, ?_, HLI⟩, ?_⟩
  · show Value.int .i64 _ = _
    go_num
  · show len - (intOf (Value.int .i64 _)).toNat < len - (intOf (F 4)).toNat
    rw [H4.out]
    simp [intOf]; omega
end Go.Proofs.Qxb6500789a
