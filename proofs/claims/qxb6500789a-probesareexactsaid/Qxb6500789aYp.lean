import Derived.Test.Qxb6500789aYo
import Derived.StillTailTactics
import Derived.Deep.QuietTactic
import Derived.BigQuiet
import Derived.Deep.RegionHeld
import Derived.Deep.CutRange
import Derived.Laws.ResultCell
import Derived.Laws.Rows
import Derived.DeepKeys
import Derived.DataBytes
import Derived.Laws.StructEq
import Derived.Laws.AppendOwn
import Derived.Laws.MakeOwn
import Derived.Lib.AppendStr
set_option linter.unusedSimpArgs false
set_option linter.unusedVariables false
namespace Go.Proofs.Qxb6500789a
open Go.RowKit Go.Blk
attribute [local go_sem ↓] execOp_load execOp_store execOp_alloc
attribute [local go_sem] Try.ld29 Try.st29 Try.ld3 Try.st3 Try.ld9 Try.st9 Try.ld30 Try.st30 Try.ld34 Try.st34 Try.ld35 Try.st35 Try.ld36 Try.st36 Try.ld37 Try.st37 Try.ld44 Try.st44 Try.ld45 Try.st45 Try.ld54 Try.st54 Try.ld55 Try.st55 Try.ld74 Try.st74 Try.ld80 Try.st80 Try.ld84 Try.st84 Try.ld106 Try.st106 Try.ld107 Try.st107 Try.ld4 Try.st4 Try.ld121 Try.st121 Try.ld2 Try.st2 Try.ld5 Try.st5 Try.ld12 Try.st12 Try.ld21 Try.st21 Try.ld22 Try.st22 Try.ld24 Try.st24 Try.ld26 Try.st26 Try.ld63 Try.st63 Try.ld71 Try.st71 Try.ld103 Try.st103 Try.ld130 Try.st130 Try.ld133 Try.st133 Try.ld140 Try.st140 Try.ld152 Try.st152 Try.ld39 Try.st39 Try.ld32 Try.st32 Try.ld41 Try.st41 Try.ld47 Try.st47 Try.ld57 Try.st57 Try.ld62 Try.st62 Try.ld76 Try.st76 Try.ld82 Try.st82 Try.ld86 Try.st86 Try.ld109 Try.st109 Try.ld115 Try.st115 Try.ld123 Try.st123 Try.ld135 Try.st135 Try.al39 Try.al32 Try.al41 Try.al47 Try.al57 Try.al62 Try.al76 Try.al82 Try.al86 Try.al109 Try.al115 Try.al123 Try.al135
attribute [local go_sem] Answer.length_enc Answer.ok_enc Answer.all_get Answer.all_set Answer.code_get Answer.code_set Answer.n_get Answer.n_set Answer.name_get Answer.name_set Answer.rows_get Answer.rows_set GOp.length_enc GOp.ok_enc GOp.all_get GOp.all_set GOp.kind_get GOp.kind_set GOp.rel_get GOp.rel_set GOp.mask_get GOp.mask_set GOp.t_get GOp.t_set GOp.n_get GOp.n_set GOp.name_get GOp.name_set Store.length_enc Store.ok_enc Store.all_get Store.all_set Store.names_get Store.names_set Store.rels_get Store.rels_set GRel.length_enc GRel.ok_enc GRel.all_get GRel.all_set GRel.arity_get GRel.arity_set GRel.masks_get GRel.masks_set GRel.rows_get GRel.rows_set Row.length_enc Row.ok_enc Row.all_get Row.all_set Row.t_get Row.t_set Row.mark_get Row.mark_set View.length_enc View.ok_enc View.all_get View.all_set View.names_get View.names_set View.rels_get View.rels_set Symtab.length_enc Symtab.ok_enc Symtab.all_get Symtab.all_set Symtab.names_get Symtab.names_set Symtab.table_get Symtab.table_set StoreTuplestore.length_enc StoreTuplestore.ok_enc StoreTuplestore.all_get StoreTuplestore.all_set StoreTuplestore.syms_get StoreTuplestore.syms_set StoreTuplestore.rels_get StoreTuplestore.rels_set StoreTuplestore.syms_names_get StoreTuplestore.syms_names_set StoreTuplestore.syms_table_get StoreTuplestore.syms_table_set Relation.length_enc Relation.ok_enc Relation.all_get Relation.all_set Relation.arity_get Relation.arity_set Relation.slots_get Relation.slots_set Relation.live_get Relation.live_set Relation.idx_get Relation.idx_set Slot.length_enc Slot.ok_enc Slot.all_get Slot.all_set Slot.t_get Slot.t_set Slot.mark_get Slot.mark_set Slot.live_get Slot.live_set RelView.length_enc RelView.ok_enc RelView.all_get RelView.all_set RelView.arity_get RelView.arity_set RelView.rows_get RelView.rows_set RelView.marks_get RelView.marks_set RelView.indexed_get RelView.indexed_set Index.length_enc Index.ok_enc Index.all_get Index.all_set Index.mask_get Index.mask_set Index.heads_get Index.heads_set Index.next_get Index.next_set
attribute [local go_sem] size_put size_ext blk_put free_put blk_alloc free_alloc blk_drew free_drew blk_ext free_ext lookOr_some putOr_some segAt_some cellAt_some storeIn_some put_put put_alloc_new length_arr ok_arr_u8 ok_arr_u32 ok_arr_u64 ok_arr_i64 ok_arr_sl cellsV_agg cellsV_int cellsV_bool cellsV_string cellsV_pointer cellsV_slice cellsV_sl ok_int ok_bool ok_string ok_pointer ok_slice ok_sl toList_arr seg_arr set_arr nth_splice nth_splice0 seg_splice seg_splice0 splice_splice splice_splice0 length_splice_if
attribute [local go_sem ↓] execOp_box
attribute [local go_sem] box_run nth_arr_u8 put_arr_u8 blk_drewN free_drewN put_drewN blk_raw free_raw
def l7K (W7 : World) (a : Option Addr) (len cap bs i b5 b10 : Nat) (na : Option Addr) (nn nc : Nat) (ua : Option Addr) (uc : Nat) (names : List (List UInt8)) (nm : List UInt8) (f : Nat → Value) (W : World) : Prop := f 0 = .slice a len cap ∧ f 3 = .pointer (some ⟨bs, 0, none⟩) ∧ f 4 = .slice na nn nc ∧ f 5 = .slice ua nn uc ∧ f 6 = .int .i64 (i : Nat) ∧ f 7 = .pointer (some ⟨b5, 0, none⟩) ∧ f 8 = .pointer (some ⟨b10, 0, none⟩) ∧ Hid (∃ k, W = W7.drewN k) ∧ ∃ j : Nat, j ≤ nn ∧ f 10 = .int .i64 (j : Nat) ∧ f 9 = .bool (decide (nm ∈ names.take j))
theorem intern_same {names : List (List UInt8)} {nm : List UInt8} (h : (internF names nm).2.1 ≠ 0) : (internF names nm).2.2 = names := by
  unfold internF at h ⊢
  split
  · rfl
  · rename_i h64
    rw [if_neg h64] at h
    cases hl : lookF names nm with
    | some n => rfl
    | none =>
      rw [hl] at h
      unfold internG at h ⊢
      by_cases hf : 256 ≤ names.length
      · rw [if_pos hf]
      · rw [if_neg hf] at h; exact (h rfl).elim
attribute [local go_sem ↓] execOp_bslice
def l7I (W0 : World) (a : Option Addr) (len cap B bs : Nat) (f : Nat → Value) (W : World) : Prop := f 0 = .slice a len cap ∧ f 3 = .pointer (some ⟨bs, 0, none⟩) ∧ ∃ (i : Nat) (na : Option Addr) (nn nc : Nat) (ua : Option Addr) (uc : Nat), i ≤ len ∧ f 6 = .int .i64 (i : Nat) ∧ f 4 = .slice na nn nc ∧ f 5 = .slice ua nn uc ∧ nn ≤ 256 ∧ Hid (∃ st, L7 W0 B bs W st na nn nc ua uc)
def l7J (W0 : World) (a : Option Addr) (len cap B bs i : Nat) (na : Option Addr) (nn nc : Nat) (ua : Option Addr) (uc : Nat) (st : StS) (f : Nat → Value) (W : World) : Prop := f 0 = .slice a len cap ∧ f 3 = .pointer (some ⟨bs, 0, none⟩) ∧ f 4 = .slice na nn nc ∧ f 5 = .slice ua nn uc ∧ f 6 = .int .i64 (i : Nat) ∧ ∃ j : Nat, j ≤ nn ∧ f 11 = .int .i64 (j : Nat) ∧ Hid (L7 W0 B bs W st na nn nc ua uc)
set_option maxRecDepth 100000 in
theorem frame132 (f : Nat → Value) : frameN 132 f = #[f 0, f 1, f 2, f 3, f 4, f 5, f 6, f 7, f 8, f 9, f 10, f 11, f 12, f 13, f 14, f 15, f 16, f 17, f 18, f 19, f 20, f 21, f 22, f 23, f 24, f 25, f 26, f 27, f 28, f 29, f 30, f 31, f 32, f 33, f 34, f 35, f 36, f 37, f 38, f 39, f 40, f 41, f 42, f 43, f 44, f 45, f 46, f 47, f 48, f 49, f 50, f 51, f 52, f 53, f 54, f 55, f 56, f 57, f 58, f 59, f 60, f 61, f 62, f 63, f 64, f 65, f 66, f 67, f 68, f 69, f 70, f 71, f 72, f 73, f 74, f 75, f 76, f 77, f 78, f 79, f 80, f 81, f 82, f 83, f 84, f 85, f 86, f 87, f 88, f 89, f 90, f 91, f 92, f 93, f 94, f 95, f 96, f 97, f 98, f 99, f 100, f 101, f 102, f 103, f 104, f 105, f 106, f 107, f 108, f 109, f 110, f 111, f 112, f 113, f 114, f 115, f 116, f 117, f 118, f 119, f 120, f 121, f 122, f 123, f 124, f 125, f 126, f 127, f 128, f 129, f 130, f 131] := by kernel_rfl
set_option maxRecDepth 20000 in
set_option maxHeartbeats 8000000 in
theorem law7_any (W : World) (a : Option Addr) (len cap : Nat) (g : Nat → GOp) (hS : ScriptAt W a len cap g) :
    Calls Try.prog 7 #[.slice a len cap] W fun e W' => e = .returned (.bool true) ∧ W.Extends W' := by
  have HS : Hid (ScriptAt W a len cap g) := hS
  have hm : len ≤ 9223372036854775807 := by have := hS.1; have := hS.2.1; simp only [maxLen] at this; omega
  have hsm := small_any W a len cap g hS
  clear hS
  go_enter Try.func7, Try.ntmps7
  go_wp2_with fail
  refine hsm.mono ?_
  rintro e W1 ⟨⟨r, rfl, hr⟩, rfl⟩
  cases r with
  | false =>
    dsimp only
    go_wp2_with fail
    go_ret
    exact ⟨rfl, ext_Ext (Ext.refl _)⟩
  | true =>
  obtain ⟨hlen, hnames⟩ := hr rfl
  have HNAM : Hid (∀ i, i < len → (g i).name.size ≤ 65536) := hnames
  clear hr hnames hsm
  dsimp only
  go_wp2_with fail
  refine (newS_any W1.heap.size (fun _ => .no) W1 (Nat.le_refl _)).mono ?_
  rintro e W2 ⟨bs, O2, rfl, hx2, hk2, hbs, hst2⟩
  have HLI : Hid (∃ st, L7 W1 W1.heap.size bs W2 st none 0 0 none 0) := ⟨_, O2, hst2, hx2, hk2, RowL.nil _ _ _ _ _ _, RowL.nil _ _ _ _ _ _⟩
  obtain ⟨B, hB⟩ : ∃ B, B = W1.heap.size := ⟨_, rfl⟩
  rw [← hB] at HLI
  clear hx2 hk2 hbs hst2 hB
  dsimp only
  go_wp2_with fail
  refine wp_loop_f 132 (l7I W1 a len cap B bs) (fun f _ => len - (intOf (f 6)).toNat) rfl ⟨rfl, rfl, 0, none, 0, 0, none, 0, by omega, rfl, rfl, rfl, by omega, HLI⟩ ?_
  clear HLI
  intro F V hrel
  obtain ⟨f0, f3, i, na, nn, nc, ua, uc, hi, f6, f4, f5, hnn, HLI⟩ := hrel
  have H6 : Hid (F 6 = .int .i64 (i : Nat)) := f6
  rw [frame132, f0, f3, f4, f5, f6]
  clear f0 f3 f4 f5 f6
  by_cases hil : i < len
  rotate_left 1
  · obtain rfl : i = len := by omega
    have hil' : ¬ (i : Int) < (i : Int) := by omega
    obtain ⟨st, O, _, hx, _, _⟩ := HLI.out
    have HX := hid_of hx
    clear hx HLI
    go_wp2_with fail
    go_ret
    exact ⟨rfl, HX.out⟩
  obtain ⟨st, hli⟩ := HLI.out
  have hxV : W1.Extends V := by obtain ⟨_, _, h, _, _⟩ := hli; exact h
  obtain ⟨b, o, C, rfl, hC, hlC, hseg⟩ := (HS.out.mono hxV).2.2.2 (by omega)
  have hs := hseg i hil
  obtain ⟨op, hop⟩ : ∃ op, op = g i := ⟨_, rfl⟩
  rw [← hop] at hs
  have hmask : op.mask ≤ 9223372036854775807 := by rw [hop]; exact (HS.out.2.2.1 i hil).2.1
  have hnm : (nmO op).length ≤ 1000000 := by
    have := HNAM.out i hil
    rw [← hop] at this
    unfold nmO
    have h2 : op.name.data.toList.length = op.name.size := Array.length_toList
    omega
  have hle : (i + 1) * 9 ≤ len * 9 := Nat.mul_le_mul_right _ (by omega)
  have q0 : (0 : Int) ≤ (i : Int) := by omega
  have q1 : (i : Int) < (len : Int) := by omega
  have q2 : ((i : Int)).toNat = i := by omega
  have q3 : o + i * 9 + 9 ≤ C.length := by omega
  have q4 : o + i * 9 < C.length := by omega
  have HLV : Hid (L7 W1 B bs V st na nn nc ua uc) := hli
  clear hseg hop hli hxV HLI
  go_upto_region 10 with fail
  have lC := blk_lt hC
  refine wp_world (fun W3 => blk W3 V.heap.size = some (GOp.enc op) ∧ V.Extends W3 ∧ W3.heap.size = V.heap.size + 1) ⟨?_, ?_, ?_⟩ ?_
  · rw [blk_alloc, if_pos rfl]
  · exact extends_alloc (ext_Ext (Ext.refl _)) _
  · rw [World.size_alloc]
  rintro W3 ⟨hb5, hx3, hsz3⟩
  obtain ⟨O3, hst3, hW3, hno3, hn3, hnew3⟩ := HLV.out.new hx3
  obtain ⟨b5, e5⟩ : ∃ b5, b5 = V.heap.size := ⟨_, rfl⟩
  have ho5 : O3 b5 = .no := hnew3 _ (by omega)
  have l5 : b5 < W3.heap.size := by omega
  rw [← e5] at hb5 ⊢
  have HST3 := hid_of hst3
  have HN3 := hid_of hn3
  have HX3 := hid_of hW3
  have HNO3 := hid_of hno3
  have HO5 := hid_of ho5
  clear hn3 hs hC hlC hle lC hx3 hsz3 hst3 hW3 hno3 hnew3 e5 ho5 HLV q3 q4
  have hplay := play_any B O3 W3 bs st HST3.out op hmask hnm
  go_wp2_with fail
  refine hplay.mono ?_
  rintro e W6 ⟨A, rfl, O6, st6, ts, hF6, hst6, hrow6, hPR⟩
  have hb56 := hF6.blk hb5 (by rw [HO5.out]; exact not_no)
  have hx6 := hF6.extends HX3.out HNO3.out
  have hno6 : ∀ k, k < W1.heap.size → O6 k = .no := fun k hk => hF6.no (Nat.lt_of_lt_of_le hk HX3.out.size) (HNO3.out k hk)
  have ho56 : O6 b5 = .no := hF6.no l5 HO5.out
  have HPR := hid_of hPR
  have HN6 := hid_of (HN3.out.frS hF6)
  have HST6 := hid_of hst6
  have HX6 := hid_of hx6
  have HNO6 := hid_of hno6
  have HO56 := hid_of ho56
  have HNL : Hid (st.names.length = nn) := HN3.out.len
  have HND : Hid (st.names.Nodup) := by obtain ⟨_, _, _, ⟨_, _, _, _, _, _, _, _, hni⟩, _⟩ := HST3.out.sym; exact hni.tinv.nodup
  clear hplay hF6 hst6 hrow6 hPR hx6 hno6 HST3 HX3 HNO3 HO5 hb5 HN3 ho56 l5
  dsimp only
  go_upto_region 11 with fail
  refine wp_world (fun W7 => blk W7 W6.heap.size = some (Answer.enc A) ∧ W6.Extends W7) ⟨?_, ?_⟩ ?_
  · rw [blk_alloc, if_pos rfl]
  · exact extends_alloc (ext_Ext (Ext.refl _)) _
  rintro W7 ⟨hb10, hx7⟩
  have hb57 : blk W7 b5 = some (GOp.enc op) := (hx7.blk (blk_lt hb56)).trans hb56
  obtain ⟨b10, e10⟩ : ∃ b10, b10 = W6.heap.size := ⟨_, rfl⟩
  have HR7 : Hid (∃ O7, StAt B O7 W7 bs st6 ∧ W1.Extends W7 ∧ (∀ k, k < W1.heap.size → O7 k = .no) ∧ N7 B O7 W7 st.names na nn nc ua uc ∧ O7 b5 = .no ∧ O7 b10 = .no) := by
    have hk : ∀ k, k < W6.heap.size → lab O6 W6.heap.size .no k = O6 k := fun k hk => lab_lt hk
    refine ⟨lab O6 W6.heap.size .no, (HST6.out.relab hk).ext hx7, HX6.out.trans hx7, fun k hk' => ?_, (HN6.out.relab hk).frS (FrS.of_extends hx7), ?_, lab_ge (by omega)⟩
    · rw [hk k (Nat.lt_of_lt_of_le hk' HX6.out.size)]; exact HNO6.out k hk'
    · rw [hk b5 (blk_lt hb56)]; exact HO56.out
  rw [← e10] at hb10 ⊢
  clear hb56 hx7 e10 HST6 HX6 HNO6 HO56 HN6
  by_cases hkc : op.kind = 0 ∧ A.code = 0
  · obtain ⟨hk0, hc0⟩ := hkc
    obtain ⟨hA, hst⟩ := play_kind0 HPR.out hk0
    have hic := intern_cases (names := st.names) (nm := nmO op) (by have h := hc0; rw [hA] at h; exact h)
    obtain ⟨nm, hnm'⟩ : ∃ nm, nm = nmO op := ⟨_, rfl⟩
    have hns : op.name = ⟨nm.toArray⟩ := by rw [hnm']; exact (nm_str op.name).symm
    obtain ⟨gn, hgn⟩ : ∃ gn, gn = A.n := ⟨_, rfl⟩
    have hAn : A.n = (internF st.names (nmO op)).1 := by rw [hA]; rfl
    have hiff : ∀ (j : Nat) (x : List UInt8), st.names[j]? = some x → (x = nm ↔ (j : Int) = gn) := by
      intro j x hx
      rw [hgn, hAn, hnm']
      rcases hic with ⟨n, h1, h2⟩ | ⟨h1, h2⟩
      · rw [h1]
        constructor
        · rintro rfl
          have h3 := lookF_at HND.out hx
          rw [lookF_at HND.out h2] at h3
          have := Option.some.inj h3
          show (j : Int) = (n : Int)
          omega
        · intro e
          have e2 : j = n := by have : (j : Int) = (n : Int) := e; omega
          rw [e2, h2] at hx
          exact (Option.some.inj hx).symm
      · rw [h1]
        constructor
        · rintro rfl; exact absurd (List.mem_of_getElem? hx) h2
        · intro e
          have e2 : (j : Int) = (st.names.length : Int) := e
          have := (List.getElem?_eq_some_iff.1 hx).1
          omega
    have HIFF := hid_of hiff
    have HNS := hid_of hns
    have HIC := hid_of hic
    have HST := hid_of hst
    have HGN := hid_of hgn
    have hgn' := hgn.symm
    have HNM := hid_of hnm'
    have HAN := hid_of hAn
    clear hA hst hic hiff hns hgn hnm' hAn HPR
    go_wp2_with fail
    refine wp_loop_f 132 (l7K W7 (some ⟨b, o, none⟩) len cap bs i b5 b10 na nn nc ua uc st.names nm) (fun f _ => nn - (intOf (f 10)).toNat) rfl ⟨rfl, rfl, rfl, rfl, rfl, rfl, rfl, ⟨0, rfl⟩, 0, by omega, rfl, rfl⟩ ?_
    intro FF V2 hrel
    obtain ⟨f0, f3, f4, f5, f6, f7, f8, HK, j, hj, f10, f9⟩ := hrel
    have H10 : Hid (FF 10 = .int .i64 (j : Nat)) := f10
    obtain ⟨kw, rfl⟩ := HK.out
    rw [frame132, f0, f3, f4, f5, f6, f7, f8, f10, f9]
    clear f0 f3 f4 f5 f6 f7 f8 f10 f9
    by_cases hjn : j < nn
    · have hjn' : (j : Int) < (nn : Int) := by omega
      obtain ⟨O7, _, _, _, hN7, _, _⟩ := HR7.out
      obtain ⟨x, hx⟩ : ∃ x, st.names[j]? = some x := ⟨_, List.getElem?_eq_getElem (by rw [HNL.out]; exact hjn)⟩
      have hnumj : (List.range st.names.length)[j]? = some j := List.getElem?_range (by rw [HNL.out]; exact hjn)
      obtain ⟨bn, Cn, hna, hCn, hcn, _, un⟩ := rw_cell (v := .string ⟨x.toArray⟩) (hN7.1.rw encS_len).1 hx rfl
      obtain ⟨bu, Cu, hua, hCu, hcu, _, uu⟩ := rw_cell (v := .int .i64 (j : Int)) (hN7.2.rw encK_len).1 hnumj rfl
      subst hna hua
      have p0 : (0 : Int) ≤ (j : Int) := by omega
      have p2 : ((j : Int)).toNat = j := by omega
      have hCnk : blk (W7.drewN kw) bn = some Cn := hCn
      have hCuk : blk (W7.drewN kw) bu = some Cu := hCu
      have hb5k : blk (W7.drewN kw) b5 = some (GOp.enc op) := hb57
      have hb10k : blk (W7.drewN kw) b10 = some (Answer.enc A) := hb10
      have htk : st.names.take (j + 1) = st.names.take j ++ [x] := by rw [List.take_add_one, hx]; rfl
      have hiffj := HIFF.out j x hx
      by_cases hxn : x = nm
      · have hgj : (j : Int) = gn := hiffj.1 hxn
        have hse : (⟨x.toArray⟩ : ByteArray) = op.name := by rw [hxn, HNS.out]
        rw [hse] at un
        have hAj : A.n = (j : Int) := by rw [hgn', hgj]
        have HSEEN : Hid (decide (nm ∈ st.names.take (j + 1)) = true) := by show _ = _; rw [htk, hxn]; exact decide_eq_true (List.mem_append_right _ (List.mem_singleton.2 rfl))
        clear hgj hse hxn hiffj htk hx hnumj hN7 hgn' HIFF
        repeat go_step
        refine wp_region_held_drew (S := fun W' => blk W' bn = some Cn ∧ blk W' b5 = some (GOp.enc op)) (by kernel_rfl) ⟨hCnk, hb5k⟩ (fun hHeld => ?_)
        refine wpAnyH_take (i := 0) (oi := ⟨_, _, _, _, _, _⟩) (v := ?_) rfl (by kernel_rfl) (by kernel_rfl) (by kernel_rfl) (fun _ _ _ h => h) (Or.inl ⟨by rfl, ?_⟩) (by assumption) ?_
        rotate_left 1
        · intro W' hSw
          obtain ⟨hS1, hS2⟩ := hSw
          go_simp
          try with_reducible rfl
        try simp only [Act.put, List.setIfInBounds_toArray, List.set_cons_zero, List.set_cons_succ]
        refine wpAnyH_take (i := 1) (oi := ⟨_, _, _, _, _, _⟩) (v := ?_) rfl (by kernel_rfl) (by kernel_rfl) (by kernel_rfl) (fun _ _ _ h => h) (Or.inl ⟨by rfl, ?_⟩) (by assumption) ?_
        rotate_left 1
        · intro W' hSw
          obtain ⟨hS1, hS2⟩ := hSw
          go_simp
          try with_reducible rfl
        try simp only [Act.put, List.setIfInBounds_toArray, List.set_cons_zero, List.set_cons_succ]
        refine wpAnyH_take (i := 2) (oi := ⟨_, _, _, _, _, _⟩) (v := ?_) rfl (by kernel_rfl) (by kernel_rfl) (by kernel_rfl) (fun _ _ _ h => h) (Or.inl ⟨by rfl, ?_⟩) (by assumption) ?_
        rotate_left 1
        · intro W' hSw
          obtain ⟨hS1, hS2⟩ := hSw
          go_simp
          try with_reducible rfl
        try simp only [Act.put, List.setIfInBounds_toArray, List.set_cons_zero, List.set_cons_succ]
        refine wpAnyH_take (i := 3) (oi := ⟨_, _, _, _, _, _⟩) (v := ?_) rfl (by kernel_rfl) (by kernel_rfl) (by kernel_rfl) (fun _ _ _ h => h) (Or.inl ⟨by rfl, ?_⟩) (by assumption) ?_
        rotate_left 1
        · intro W' hSw
          obtain ⟨hS1, hS2⟩ := hSw
          go_simp
          try with_reducible rfl
        try simp only [Act.put, List.setIfInBounds_toArray, List.set_cons_zero, List.set_cons_succ]
        refine wpAnyH_take (i := 4) (oi := ⟨_, _, _, _, _, _⟩) (v := ?_) rfl (by kernel_rfl) (by kernel_rfl) (by kernel_rfl) (fun _ _ _ h => h) (Or.inl ⟨by rfl, ?_⟩) (by assumption) ?_
        rotate_left 1
        · intro W' hSw
          obtain ⟨hS1, hS2⟩ := hSw
          go_simp
          try with_reducible rfl
        try simp only [Act.put, List.setIfInBounds_toArray, List.set_cons_zero, List.set_cons_succ]
        refine wpAnyH_take (i := 5) (oi := ⟨_, _, _, _, _, _⟩) (v := ?_) rfl (by kernel_rfl) (by kernel_rfl) (by kernel_rfl) (fun _ _ _ h => h) (Or.inl ⟨by rfl, ?_⟩) (by assumption) ?_
        rotate_left 1
        · intro W' hSw
          obtain ⟨hS1, hS2⟩ := hSw
          go_simp
          try with_reducible rfl
        try simp only [Act.put, List.setIfInBounds_toArray, List.set_cons_zero, List.set_cons_succ]
        refine wpAnyH_take (i := 6) (oi := ⟨_, _, _, _, _, _⟩) (v := ?_) rfl (by kernel_rfl) (by kernel_rfl) (by kernel_rfl) (fun _ _ _ h => h) (Or.inl ⟨by rfl, ?_⟩) (by assumption) ?_
        rotate_left 1
        · intro W' hSw
          obtain ⟨hS1, hS2⟩ := hSw
          go_simp
          try with_reducible rfl
        try simp only [Act.put, List.setIfInBounds_toArray, List.set_cons_zero, List.set_cons_succ]
        refine wpAnyH_done (by kernel_rfl) ?_ _
        repeat go_step
        refine wp_region_held_drew (S := fun W' => blk W' bn = some Cn ∧ blk W' b5 = some (GOp.enc op) ∧ blk W' bu = some Cu ∧ blk W' b10 = some (Answer.enc A)) (by kernel_rfl) ⟨hCnk, hb5k, hCuk, hb10k⟩ (fun hHeld => ?_)
        refine wpAnyH_take (i := 0) (oi := ⟨_, _, _, _, _, _⟩) (v := ?_) rfl (by kernel_rfl) (by kernel_rfl) (by kernel_rfl) (fun _ _ _ h => h) (Or.inl ⟨by rfl, ?_⟩) (by assumption) ?_
        rotate_left 1
        · intro W' hSw
          obtain ⟨hS1, hS2, hS3, hS4⟩ := hSw
          go_simp
          try with_reducible rfl
        try simp only [Act.put, List.setIfInBounds_toArray, List.set_cons_zero, List.set_cons_succ]
        refine wpAnyH_take (i := 1) (oi := ⟨_, _, _, _, _, _⟩) (v := ?_) rfl (by kernel_rfl) (by kernel_rfl) (by kernel_rfl) (fun _ _ _ h => h) (Or.inl ⟨by rfl, ?_⟩) (by assumption) ?_
        rotate_left 1
        · intro W' hSw
          obtain ⟨hS1, hS2, hS3, hS4⟩ := hSw
          go_simp
          try with_reducible rfl
        try simp only [Act.put, List.setIfInBounds_toArray, List.set_cons_zero, List.set_cons_succ]
        refine wpAnyH_take (i := 2) (oi := ⟨_, _, _, _, _, _⟩) (v := ?_) rfl (by kernel_rfl) (by kernel_rfl) (by kernel_rfl) (fun _ _ _ h => h) (Or.inl ⟨by rfl, ?_⟩) (by assumption) ?_
        rotate_left 1
        · intro W' hSw
          obtain ⟨hS1, hS2, hS3, hS4⟩ := hSw
          go_simp
          try with_reducible rfl
        try simp only [Act.put, List.setIfInBounds_toArray, List.set_cons_zero, List.set_cons_succ]
        refine wpAnyH_take (i := 3) (oi := ⟨_, _, _, _, _, _⟩) (v := ?_) rfl (by kernel_rfl) (by kernel_rfl) (by kernel_rfl) (fun _ _ _ h => h) (Or.inl ⟨by rfl, ?_⟩) (by assumption) ?_
        rotate_left 1
        · intro W' hSw
          obtain ⟨hS1, hS2, hS3, hS4⟩ := hSw
          go_simp
          try with_reducible rfl
        try simp only [Act.put, List.setIfInBounds_toArray, List.set_cons_zero, List.set_cons_succ]
        refine wpAnyH_take (i := 4) (oi := ⟨_, _, _, _, _, _⟩) (v := ?_) rfl (by kernel_rfl) (by kernel_rfl) (by kernel_rfl) (fun _ _ _ h => h) (Or.inl ⟨by rfl, ?_⟩) (by assumption) ?_
        rotate_left 1
        · intro W' hSw
          obtain ⟨hS1, hS2, hS3, hS4⟩ := hSw
          go_simp
          try with_reducible rfl
        try simp only [Act.put, List.setIfInBounds_toArray, List.set_cons_zero, List.set_cons_succ]
        refine wpAnyH_take (i := 5) (oi := ⟨_, _, _, _, _, _⟩) (v := ?_) rfl (by kernel_rfl) (by kernel_rfl) (by kernel_rfl) (fun _ _ _ h => h) (Or.inl ⟨by rfl, ?_⟩) (by assumption) ?_
        rotate_left 1
        · intro W' hSw
          obtain ⟨hS1, hS2, hS3, hS4⟩ := hSw
          go_simp
          try with_reducible rfl
        try simp only [Act.put, List.setIfInBounds_toArray, List.set_cons_zero, List.set_cons_succ]
        refine wpAnyH_take (i := 6) (oi := ⟨_, _, _, _, _, _⟩) (v := ?_) rfl (by kernel_rfl) (by kernel_rfl) (by kernel_rfl) (fun _ _ _ h => h) (Or.inl ⟨by rfl, ?_⟩) (by assumption) ?_
        rotate_left 1
        · intro W' hSw
          obtain ⟨hS1, hS2, hS3, hS4⟩ := hSw
          go_simp
          try with_reducible rfl
        try simp only [Act.put, List.setIfInBounds_toArray, List.set_cons_zero, List.set_cons_succ]
        refine wpAnyH_take (i := 7) (oi := ⟨_, _, _, _, _, _⟩) (v := ?_) rfl (by kernel_rfl) (by kernel_rfl) (by kernel_rfl) (fun _ _ _ h => h) (Or.inl ⟨by rfl, ?_⟩) (by assumption) ?_
        rotate_left 1
        · intro W' hSw
          obtain ⟨hS1, hS2, hS3, hS4⟩ := hSw
          go_simp
          try with_reducible rfl
        try simp only [Act.put, List.setIfInBounds_toArray, List.set_cons_zero, List.set_cons_succ]
        refine wpAnyH_take (i := 8) (oi := ⟨_, _, _, _, _, _⟩) (v := ?_) rfl (by kernel_rfl) (by kernel_rfl) (by kernel_rfl) (fun _ _ _ h => h) (Or.inl ⟨by rfl, ?_⟩) (by assumption) ?_
        rotate_left 1
        · intro W' hSw
          obtain ⟨hS1, hS2, hS3, hS4⟩ := hSw
          go_simp
          try with_reducible rfl
        try simp only [Act.put, List.setIfInBounds_toArray, List.set_cons_zero, List.set_cons_succ]
        refine wpAnyH_take (i := 9) (oi := ⟨_, _, _, _, _, _⟩) (v := ?_) rfl (by kernel_rfl) (by kernel_rfl) (by kernel_rfl) (fun _ _ _ h => h) (Or.inl ⟨by rfl, ?_⟩) (by assumption) ?_
        rotate_left 1
        · intro W' hSw
          obtain ⟨hS1, hS2, hS3, hS4⟩ := hSw
          go_simp
          try with_reducible rfl
        try simp only [Act.put, List.setIfInBounds_toArray, List.set_cons_zero, List.set_cons_succ]
        refine wpAnyH_take (i := 10) (oi := ⟨_, _, _, _, _, _⟩) (v := ?_) rfl (by kernel_rfl) (by kernel_rfl) (by kernel_rfl) (fun _ _ _ h => h) (Or.inl ⟨by rfl, ?_⟩) (by assumption) ?_
        rotate_left 1
        · intro W' hSw
          obtain ⟨hS1, hS2, hS3, hS4⟩ := hSw
          go_simp
          try with_reducible rfl
        try simp only [Act.put, List.setIfInBounds_toArray, List.set_cons_zero, List.set_cons_succ]
        refine wpAnyH_take (i := 11) (oi := ⟨_, _, _, _, _, _⟩) (v := ?_) rfl (by kernel_rfl) (by kernel_rfl) (by kernel_rfl) (fun _ _ _ h => h) (Or.inl ⟨by rfl, ?_⟩) (by assumption) ?_
        rotate_left 1
        · intro W' hSw
          obtain ⟨hS1, hS2, hS3, hS4⟩ := hSw
          go_simp
          try with_reducible rfl
        try simp only [Act.put, List.setIfInBounds_toArray, List.set_cons_zero, List.set_cons_succ]
        refine wpAnyH_take (i := 12) (oi := ⟨_, _, _, _, _, _⟩) (v := ?_) rfl (by kernel_rfl) (by kernel_rfl) (by kernel_rfl) (fun _ _ _ h => h) (Or.inl ⟨by rfl, ?_⟩) (by assumption) ?_
        rotate_left 1
        · intro W' hSw
          obtain ⟨hS1, hS2, hS3, hS4⟩ := hSw
          go_simp
          try with_reducible rfl
        try simp only [Act.put, List.setIfInBounds_toArray, List.set_cons_zero, List.set_cons_succ]
        refine wpAnyH_take (i := 13) (oi := ⟨_, _, _, _, _, _⟩) (v := ?_) rfl (by kernel_rfl) (by kernel_rfl) (by kernel_rfl) (fun _ _ _ h => h) (Or.inl ⟨by rfl, ?_⟩) (by assumption) ?_
        rotate_left 1
        · intro W' hSw
          obtain ⟨hS1, hS2, hS3, hS4⟩ := hSw
          go_simp
          try with_reducible rfl
        try simp only [Act.put, List.setIfInBounds_toArray, List.set_cons_zero, List.set_cons_succ]
        refine wpAnyH_take (i := 14) (oi := ⟨_, _, _, _, _, _⟩) (v := ?_) rfl (by kernel_rfl) (by kernel_rfl) (by kernel_rfl) (fun _ _ _ h => h) (Or.inl ⟨by rfl, ?_⟩) (by assumption) ?_
        rotate_left 1
        · intro W' hSw
          obtain ⟨hS1, hS2, hS3, hS4⟩ := hSw
          go_simp
          try with_reducible rfl
        try simp only [Act.put, List.setIfInBounds_toArray, List.set_cons_zero, List.set_cons_succ]
        refine wpAnyH_done (by kernel_rfl) ?_ _
        go_wp2_with fail
        refine ⟨rfl, rfl, ⟨rfl, rfl, rfl, rfl, rfl, rfl, rfl, ⟨_, rfl⟩, j + 1, by omega, ?_, by rw [HSEEN.out]; rfl⟩, ?_⟩
        · show Value.int .i64 _ = _
          go_num
        · show nn - (intOf (Value.int .i64 _)).toNat < nn - (intOf (FF 10)).toNat
          rw [H10.out]
          simp [intOf]; omega
      · have hgj : ¬ (j : Int) = gn := fun e => hxn (hiffj.2 e)
        obtain ⟨sv, hsv⟩ : ∃ sv : ByteArray, sv = ⟨x.toArray⟩ := ⟨_, rfl⟩
        have hse : ¬ sv = op.name := by
          rw [hsv, HNS.out]
          intro e
          have := congrArg (fun s : ByteArray => s.data.toList) e
          exact hxn (by simpa using this)
        have hseb := str_ne hse
        rw [← hsv] at un
        have hAj : ¬ (j : Int) = A.n := by rw [hgn']; exact hgj
        have hAjb : ((j : Int) == A.n) = false := by simp [hAj]
        have HSEEN : Hid (decide (nm ∈ st.names.take (j + 1)) = decide (nm ∈ st.names.take j)) := by
          show _ = _
          rw [htk]
          have : (nm ∈ st.names.take j ++ [x]) ↔ nm ∈ st.names.take j := by
            rw [List.mem_append, List.mem_singleton]
            exact ⟨fun h => h.elim id (fun e => absurd e.symm hxn), .inl⟩
          exact decide_eq_decide.2 this
        obtain ⟨sn, hsn⟩ : ∃ sn, sn = decide (nm ∈ st.names.take j) := ⟨_, rfl⟩
        rw [← hsn] at HSEEN ⊢
        clear hgj hsv hxn hiffj htk hx hnumj hN7 hgn' HIFF hsn
        repeat go_step
        refine wp_region_held_drew (S := fun W' => blk W' bn = some Cn ∧ blk W' b5 = some (GOp.enc op)) (by kernel_rfl) ⟨hCnk, hb5k⟩ (fun hHeld => ?_)
        refine wpAnyH_take (i := 0) (oi := ⟨_, _, _, _, _, _⟩) (v := ?_) rfl (by kernel_rfl) (by kernel_rfl) (by kernel_rfl) (fun _ _ _ h => h) (Or.inl ⟨by rfl, ?_⟩) (by assumption) ?_
        rotate_left 1
        · intro W' hSw
          obtain ⟨hS1, hS2⟩ := hSw
          go_simp
          try with_reducible rfl
        try simp only [Act.put, List.setIfInBounds_toArray, List.set_cons_zero, List.set_cons_succ]
        refine wpAnyH_take (i := 1) (oi := ⟨_, _, _, _, _, _⟩) (v := ?_) rfl (by kernel_rfl) (by kernel_rfl) (by kernel_rfl) (fun _ _ _ h => h) (Or.inl ⟨by rfl, ?_⟩) (by assumption) ?_
        rotate_left 1
        · intro W' hSw
          obtain ⟨hS1, hS2⟩ := hSw
          go_simp
          try with_reducible rfl
        try simp only [Act.put, List.setIfInBounds_toArray, List.set_cons_zero, List.set_cons_succ]
        refine wpAnyH_take (i := 2) (oi := ⟨_, _, _, _, _, _⟩) (v := ?_) rfl (by kernel_rfl) (by kernel_rfl) (by kernel_rfl) (fun _ _ _ h => h) (Or.inl ⟨by rfl, ?_⟩) (by assumption) ?_
        rotate_left 1
        · intro W' hSw
          obtain ⟨hS1, hS2⟩ := hSw
          go_simp
          try with_reducible rfl
        try simp only [Act.put, List.setIfInBounds_toArray, List.set_cons_zero, List.set_cons_succ]
        refine wpAnyH_take (i := 3) (oi := ⟨_, _, _, _, _, _⟩) (v := ?_) rfl (by kernel_rfl) (by kernel_rfl) (by kernel_rfl) (fun _ _ _ h => h) (Or.inl ⟨by rfl, ?_⟩) (by assumption) ?_
        rotate_left 1
        · intro W' hSw
          obtain ⟨hS1, hS2⟩ := hSw
          go_simp
          try with_reducible rfl
        try simp only [Act.put, List.setIfInBounds_toArray, List.set_cons_zero, List.set_cons_succ]
        refine wpAnyH_take (i := 4) (oi := ⟨_, _, _, _, _, _⟩) (v := ?_) rfl (by kernel_rfl) (by kernel_rfl) (by kernel_rfl) (fun _ _ _ h => h) (Or.inl ⟨by rfl, ?_⟩) (by assumption) ?_
        rotate_left 1
        · intro W' hSw
          obtain ⟨hS1, hS2⟩ := hSw
          go_simp
          try with_reducible rfl
        try simp only [Act.put, List.setIfInBounds_toArray, List.set_cons_zero, List.set_cons_succ]
        refine wpAnyH_take (i := 5) (oi := ⟨_, _, _, _, _, _⟩) (v := ?_) rfl (by kernel_rfl) (by kernel_rfl) (by kernel_rfl) (fun _ _ _ h => h) (Or.inl ⟨by rfl, ?_⟩) (by assumption) ?_
        rotate_left 1
        · intro W' hSw
          obtain ⟨hS1, hS2⟩ := hSw
          go_simp
          try with_reducible rfl
        try simp only [Act.put, List.setIfInBounds_toArray, List.set_cons_zero, List.set_cons_succ]
        refine wpAnyH_take (i := 6) (oi := ⟨_, _, _, _, _, _⟩) (v := ?_) rfl (by kernel_rfl) (by kernel_rfl) (by kernel_rfl) (fun _ _ _ h => h) (Or.inl ⟨by rfl, ?_⟩) (by assumption) ?_
        rotate_left 1
        · intro W' hSw
          obtain ⟨hS1, hS2⟩ := hSw
          go_simp
          try with_reducible rfl
        try simp only [Act.put, List.setIfInBounds_toArray, List.set_cons_zero, List.set_cons_succ]
        refine wpAnyH_done (by kernel_rfl) ?_ _
        repeat go_step
        refine wp_region_held_drew (S := fun W' => blk W' bn = some Cn ∧ blk W' b5 = some (GOp.enc op) ∧ blk W' bu = some Cu ∧ blk W' b10 = some (Answer.enc A)) (by kernel_rfl) ⟨hCnk, hb5k, hCuk, hb10k⟩ (fun hHeld => ?_)
        refine wpAnyH_take (i := 0) (oi := ⟨_, _, _, _, _, _⟩) (v := ?_) rfl (by kernel_rfl) (by kernel_rfl) (by kernel_rfl) (fun _ _ _ h => h) (Or.inl ⟨by rfl, ?_⟩) (by assumption) ?_
        rotate_left 1
        · intro W' hSw
          obtain ⟨hS1, hS2, hS3, hS4⟩ := hSw
          go_simp
          try with_reducible rfl
        try simp only [Act.put, List.setIfInBounds_toArray, List.set_cons_zero, List.set_cons_succ]
        refine wpAnyH_take (i := 1) (oi := ⟨_, _, _, _, _, _⟩) (v := ?_) rfl (by kernel_rfl) (by kernel_rfl) (by kernel_rfl) (fun _ _ _ h => h) (Or.inl ⟨by rfl, ?_⟩) (by assumption) ?_
        rotate_left 1
        · intro W' hSw
          obtain ⟨hS1, hS2, hS3, hS4⟩ := hSw
          go_simp
          try with_reducible rfl
        try simp only [Act.put, List.setIfInBounds_toArray, List.set_cons_zero, List.set_cons_succ]
        refine wpAnyH_take (i := 2) (oi := ⟨_, _, _, _, _, _⟩) (v := ?_) rfl (by kernel_rfl) (by kernel_rfl) (by kernel_rfl) (fun _ _ _ h => h) (Or.inl ⟨by rfl, ?_⟩) (by assumption) ?_
        rotate_left 1
        · intro W' hSw
          obtain ⟨hS1, hS2, hS3, hS4⟩ := hSw
          go_simp
          try with_reducible rfl
        try simp only [Act.put, List.setIfInBounds_toArray, List.set_cons_zero, List.set_cons_succ]
        refine wpAnyH_take (i := 3) (oi := ⟨_, _, _, _, _, _⟩) (v := ?_) rfl (by kernel_rfl) (by kernel_rfl) (by kernel_rfl) (fun _ _ _ h => h) (Or.inl ⟨by rfl, ?_⟩) (by assumption) ?_
        rotate_left 1
        · intro W' hSw
          obtain ⟨hS1, hS2, hS3, hS4⟩ := hSw
          go_simp
          try with_reducible rfl
        try simp only [Act.put, List.setIfInBounds_toArray, List.set_cons_zero, List.set_cons_succ]
        refine wpAnyH_take (i := 4) (oi := ⟨_, _, _, _, _, _⟩) (v := ?_) rfl (by kernel_rfl) (by kernel_rfl) (by kernel_rfl) (fun _ _ _ h => h) (Or.inl ⟨by rfl, ?_⟩) (by assumption) ?_
        rotate_left 1
        · intro W' hSw
          obtain ⟨hS1, hS2, hS3, hS4⟩ := hSw
          go_simp
          try with_reducible rfl
        try simp only [Act.put, List.setIfInBounds_toArray, List.set_cons_zero, List.set_cons_succ]
        refine wpAnyH_take (i := 5) (oi := ⟨_, _, _, _, _, _⟩) (v := ?_) rfl (by kernel_rfl) (by kernel_rfl) (by kernel_rfl) (fun _ _ _ h => h) (Or.inl ⟨by rfl, ?_⟩) (by assumption) ?_
        rotate_left 1
        · intro W' hSw
          obtain ⟨hS1, hS2, hS3, hS4⟩ := hSw
          go_simp
          try with_reducible rfl
        try simp only [Act.put, List.setIfInBounds_toArray, List.set_cons_zero, List.set_cons_succ]
        refine wpAnyH_take (i := 6) (oi := ⟨_, _, _, _, _, _⟩) (v := ?_) rfl (by kernel_rfl) (by kernel_rfl) (by kernel_rfl) (fun _ _ _ h => h) (Or.inl ⟨by rfl, ?_⟩) (by assumption) ?_
        rotate_left 1
        · intro W' hSw
          obtain ⟨hS1, hS2, hS3, hS4⟩ := hSw
          go_simp
          try with_reducible rfl
        try simp only [Act.put, List.setIfInBounds_toArray, List.set_cons_zero, List.set_cons_succ]
        refine wpAnyH_take (i := 7) (oi := ⟨_, _, _, _, _, _⟩) (v := ?_) rfl (by kernel_rfl) (by kernel_rfl) (by kernel_rfl) (fun _ _ _ h => h) (Or.inl ⟨by rfl, ?_⟩) (by assumption) ?_
        rotate_left 1
        · intro W' hSw
          obtain ⟨hS1, hS2, hS3, hS4⟩ := hSw
          go_simp
          try with_reducible rfl
        try simp only [Act.put, List.setIfInBounds_toArray, List.set_cons_zero, List.set_cons_succ]
        refine wpAnyH_take (i := 8) (oi := ⟨_, _, _, _, _, _⟩) (v := ?_) rfl (by kernel_rfl) (by kernel_rfl) (by kernel_rfl) (fun _ _ _ h => h) (Or.inl ⟨by rfl, ?_⟩) (by assumption) ?_
        rotate_left 1
        · intro W' hSw
          obtain ⟨hS1, hS2, hS3, hS4⟩ := hSw
          go_simp
          try with_reducible rfl
        try simp only [Act.put, List.setIfInBounds_toArray, List.set_cons_zero, List.set_cons_succ]
        refine wpAnyH_take (i := 9) (oi := ⟨_, _, _, _, _, _⟩) (v := ?_) rfl (by kernel_rfl) (by kernel_rfl) (by kernel_rfl) (fun _ _ _ h => h) (Or.inl ⟨by rfl, ?_⟩) (by assumption) ?_
        rotate_left 1
        · intro W' hSw
          obtain ⟨hS1, hS2, hS3, hS4⟩ := hSw
          go_simp
          try with_reducible rfl
        try simp only [Act.put, List.setIfInBounds_toArray, List.set_cons_zero, List.set_cons_succ]
        refine wpAnyH_take (i := 10) (oi := ⟨_, _, _, _, _, _⟩) (v := ?_) rfl (by kernel_rfl) (by kernel_rfl) (by kernel_rfl) (fun _ _ _ h => h) (Or.inl ⟨by rfl, ?_⟩) (by assumption) ?_
        rotate_left 1
        · intro W' hSw
          obtain ⟨hS1, hS2, hS3, hS4⟩ := hSw
          go_simp
          try with_reducible rfl
        try simp only [Act.put, List.setIfInBounds_toArray, List.set_cons_zero, List.set_cons_succ]
        refine wpAnyH_take (i := 11) (oi := ⟨_, _, _, _, _, _⟩) (v := ?_) rfl (by kernel_rfl) (by kernel_rfl) (by kernel_rfl) (fun _ _ _ h => h) (Or.inl ⟨by rfl, ?_⟩) (by assumption) ?_
        rotate_left 1
        · intro W' hSw
          obtain ⟨hS1, hS2, hS3, hS4⟩ := hSw
          go_simp
          try with_reducible rfl
        try simp only [Act.put, List.setIfInBounds_toArray, List.set_cons_zero, List.set_cons_succ]
        refine wpAnyH_take (i := 12) (oi := ⟨_, _, _, _, _, _⟩) (v := ?_) rfl (by kernel_rfl) (by kernel_rfl) (by kernel_rfl) (fun _ _ _ h => h) (Or.inl ⟨by rfl, ?_⟩) (by assumption) ?_
        rotate_left 1
        · intro W' hSw
          obtain ⟨hS1, hS2, hS3, hS4⟩ := hSw
          go_simp
          try with_reducible rfl
        try simp only [Act.put, List.setIfInBounds_toArray, List.set_cons_zero, List.set_cons_succ]
        refine wpAnyH_take (i := 13) (oi := ⟨_, _, _, _, _, _⟩) (v := ?_) rfl (by kernel_rfl) (by kernel_rfl) (by kernel_rfl) (fun _ _ _ h => h) (Or.inl ⟨by rfl, ?_⟩) (by assumption) ?_
        rotate_left 1
        · intro W' hSw
          obtain ⟨hS1, hS2, hS3, hS4⟩ := hSw
          go_simp
          try with_reducible rfl
        try simp only [Act.put, List.setIfInBounds_toArray, List.set_cons_zero, List.set_cons_succ]
        refine wpAnyH_take (i := 14) (oi := ⟨_, _, _, _, _, _⟩) (v := ?_) rfl (by kernel_rfl) (by kernel_rfl) (by kernel_rfl) (fun _ _ _ h => h) (Or.inl ⟨by rfl, ?_⟩) (by assumption) ?_
        rotate_left 1
        · intro W' hSw
          obtain ⟨hS1, hS2, hS3, hS4⟩ := hSw
          go_simp
          try with_reducible rfl
        try simp only [Act.put, List.setIfInBounds_toArray, List.set_cons_zero, List.set_cons_succ]
        refine wpAnyH_done (by kernel_rfl) ?_ _
        go_wp2_with fail
        refine ⟨rfl, rfl, ⟨rfl, rfl, rfl, rfl, rfl, rfl, rfl, ⟨_, rfl⟩, j + 1, by omega, ?_, by rw [HSEEN.out]; rfl⟩, ?_⟩
        · show Value.int .i64 _ = _
          go_num
        · show nn - (intOf (Value.int .i64 _)).toNat < nn - (intOf (FF 10)).toNat
          rw [H10.out]
          simp [intOf]; omega
    · obtain rfl : nn = j := by omega
      have hjn' : ¬ (nn : Int) < (nn : Int) := by omega
      have hall : st.names.take nn = st.names := List.take_of_length_le (by rw [HNL.out]; exact Nat.le_refl _)
      rw [hall]
      have hdx : W7.Extends (W7.drewN kw) := extends_drewN (ext_Ext (Ext.refl _)) kw
      rcases HIC.out with ⟨n, h1, h2⟩ | ⟨h1, h2⟩
      · have hmem : nm ∈ st.names := by rw [HNM.out]; exact List.mem_of_getElem? h2
        rw [decide_eq_true hmem]
        have HL7 : Hid (L7 W1 B bs (W7.drewN kw) st6 na nn nc ua uc) := by
          obtain ⟨O7, g1, g2, g3, g4, _, _⟩ := HR7.out
          refine L7.ext ⟨O7, g1, g2, g3, ?_⟩ hdx
          rw [HST.out, h1]; exact g4
        clear hmem hall hdx h1 h2 HIC HST HIFF HR7 hgn'
        go_wp2_with fail
        have hL0 := HL7.out
        refine wp_loop_f 132 (l7J W1 (some ⟨b, o, none⟩) len cap B bs i na (nn) nc ua uc st6) (fun f _ => (nn) - (intOf (f 11)).toNat) rfl ⟨rfl, rfl, rfl, rfl, rfl, 0, by omega, rfl, hL0⟩ ?_
        clear hL0 HL7
        intro FF V3 hrel
        obtain ⟨f0, f3, f4, f5, f6, j, hj, f11, HLJ0⟩ := hrel
        have H11 : Hid (FF 11 = .int .i64 (j : Nat)) := f11
        rw [frame132, f0, f3, f4, f5, f6, f11]
        clear f0 f3 f4 f5 f6 f11
        obtain ⟨O9, hst9, hx9, hno9, hN9⟩ := HLJ0.out
        have hnl9 := hN9.len
        have hnd9 : st6.names.Nodup ∧ ∀ nm ∈ st6.names, nm.length ≤ 64 := by obtain ⟨_, _, _, ⟨_, _, _, _, _, _, _, _, hni⟩, _⟩ := hst9.sym; exact ⟨hni.tinv.nodup, hni.short⟩
        by_cases hjn : j < nn
        · have hjn' : (j : Int) < ((nn : Nat) : Int) := by omega
          obtain ⟨nmj, hnmj⟩ : ∃ nmj, st6.names[j]? = some nmj := ⟨_, List.getElem?_eq_getElem (by omega)⟩
          have hnumj : (List.range st6.names.length)[j]? = some j := List.getElem?_range (by omega)
          obtain ⟨bn, Cn, hna, hCn, hcn, _, un⟩ := rw_cell (v := .string ⟨nmj.toArray⟩) (hN9.1.rw encS_len).1 hnmj rfl
          obtain ⟨bu, Cu, hua, hCu, hcu, _, uu⟩ := rw_cell (v := .int .i64 (j : Int)) (hN9.2.rw encK_len).1 hnumj rfl
          subst hna hua
          have hlk9 := lookS_any B O9 V3 bs st6 hst9 nmj (by have := hnd9.2 nmj (List.mem_of_getElem? hnmj); omega)
          have elk : lookupF st6.names nmj = ((j : Int), 0) := by unfold lookupF; rw [lookF_at hnd9.1 hnmj]; rfl
          rw [elk] at hlk9
          have enm : nameF st6.names (j : Int) = (nmj, 0) := by
            unfold nameF
            rw [if_pos ⟨by omega, by omega⟩, Int.toNat_natCast, List.getD_eq_getElem?_getD, hnmj]; rfl
          have hns9 : ∀ V4, V3.Extends V4 → Calls Try.prog 18 #[.pointer (some ⟨bs, 0, none⟩), .int .i64 (j : Int)] V4 fun e W' => e = .returned (.tuple #[.string ⟨nmj.toArray⟩, .int .i64 0]) ∧ W' = V4 := fun V4 hx => by
            obtain ⟨ra, rn, rc, hy, _⟩ := (hst9.ext hx).sym
            have := nameS_any B O9 V4 bs st6.names ra rn rc (j : Int) hy
            rw [enm] at this
            exact this
          have HNS9 := hid_of hns9
          obtain ⟨sv, hsv⟩ : ∃ sv : ByteArray, sv = ⟨nmj.toArray⟩ := ⟨_, rfl⟩
          rw [← hsv] at un hlk9 HNS9
          have p0 : (0 : Int) ≤ (j : Int) := by omega
          have p2 : ((j : Int)).toNat = j := by omega
          have HLK : Hid (L7 W1 B bs V3 st6 _ (nn) nc _ uc) := HLJ0.out
          clear hnmj hnumj elk enm hst9 hx9 hno9 hN9 hnl9 hnd9 hsv hns9 HLJ0
          go_wp2_with fail
          refine hlk9.mono ?_
          rintro e V4 ⟨rfl, hx4⟩
          have hCn4 : blk V4 bn = some Cn := (hx4.blk (blk_lt hCn)).trans hCn
          have hCu4 : blk V4 bu = some Cu := (hx4.blk (blk_lt hCu)).trans hCu
          have hn4 := HNS9.out V4 hx4
          have HLJ : Hid (L7 W1 B bs V4 st6 _ (nn) nc _ uc) := HLK.out.ext hx4
          clear hx4 hlk9 HNS9 hCn hCu HLK
          dsimp only
          go_wp2_with fail
          refine hn4.mono ?_
          rintro e V5 ⟨rfl, rfl⟩
          dsimp only
          go_wp2_with fail
          refine ⟨rfl, rfl, ⟨rfl, rfl, rfl, rfl, rfl, j + 1, by omega, ?_, HLJ⟩, ?_⟩
          · show Value.int .i64 _ = _
            go_num
          · show (nn) - (intOf (Value.int .i64 _)).toNat < (nn) - (intOf (FF 11)).toNat
            rw [H11.out]
            simp [intOf]; omega
        · have hjn' : ¬ (j : Int) < ((nn : Nat) : Int) := by omega
          have hsy9 := symsS_any B O9 V3 bs st6 hst9
          rw [hnl9] at hsy9
          have hcap9 := (hst9.caps 0).1
          have hnn9 : nn ≤ 256 := by omega
          have HLX := HLJ0
          clear hst9 hx9 hno9 hN9 hnl9 hnd9 HLJ0 hcap9
          go_wp2_with fail
          refine hsy9.mono ?_
          rintro e V4 ⟨rfl, rfl⟩
          dsimp only
          go_wp2_with fail
          refine ⟨rfl, rfl, ⟨rfl, rfl, i + 1, _, _, _, _, _, by omega, ?_, rfl, rfl, hnn9, ⟨_, HLX.out⟩⟩, ?_⟩
          · show Value.int .i64 _ = _
            go_num
          · show len - (intOf (Value.int .i64 _)).toNat < len - (intOf (F 6)).toNat
            rw [H6.out]
            simp [intOf]; omega
      · have hmem : nm ∉ st.names := by rw [HNM.out]; exact h2
        rw [decide_eq_false hmem]
        obtain ⟨O7, g1, g2, g3, g4, g5, g6⟩ := HR7.out
        have hst6 : st6 = ⟨st.names ++ [nm], st.rels⟩ := by rw [HST.out, h1, HNM.out]
        have hAn : A.n = (nn : Int) := by rw [HAN.out, h1]; show (st.names.length : Int) = _; rw [HNL.out]
        rw [hst6] at g1
        obtain ⟨na', nc', X1, hr1, hk1, ua', uc', X2, hr2, hk2, hL⟩ := L7.grow (W := W7.drewN kw) (g1.ext hdx) (g2.trans hdx) g3 (g4.frS (FrS.of_extends hdx)) (by obtain ⟨_, _, _, _, _, _, _, _, h5, _⟩ := g1; exact h5)
        have hb10X : blk X1 b10 = some (Answer.enc A) := hk1 b10 _ hb10 g6
        obtain ⟨stN, hstN⟩ : ∃ s : StS, s = ⟨st.names ++ [nm], st.rels⟩ := ⟨_, rfl⟩
        rw [← hstN] at hL
        have HL7 := hid_of hL
        clear hstN
        have hbs44 : ∀ w : World, (bsliceOp 44 1 #[(0, .string op.name)]).run Try.prog w = .ok (.value (.slice (some ⟨w.heap.size, 0, none⟩) 1 1)) (w.alloc (.cells (encS nm).toArray 9)) := fun w => by rw [HNS.out]; exact bslice44 w nm
        have hbs71 : ∀ w : World, (bsliceOp 71 1 #[(0, .int .i64 (nn : Int))]).run Try.prog w = .ok (.value (.slice (some ⟨w.heap.size, 0, none⟩) 1 1)) (w.alloc (.cells (encK nn).toArray 37)) := fun w => bslice71 w _
        have hb5w : blk (W7.drewN kw) b5 = some (GOp.enc op) := hb57
        clear hmem hall hdx h1 h2 HIC HST HIFF HR7 hgn' g1 g2 g3 g4 g5 g6 hst6 hk1 hk2 hL HGN HAN
        go_upto_region 22 with (at_builtin; refine wpList_append_run rfl _ _ 44 rfl _ _ _ _ rfl rfl hr1 ?_)
        go_upto_region 23 with (at_builtin; refine wpList_append_run rfl _ _ 71 rfl _ _ _ _ rfl rfl hr2 ?_)
        go_wp2_with fail
        have hL0 := HL7.out
        refine wp_loop_f 132 (l7J W1 (some ⟨b, o, none⟩) len cap B bs i na' (nn + 1) nc' ua' uc' stN) (fun f _ => (nn + 1) - (intOf (f 11)).toNat) rfl ⟨rfl, rfl, rfl, rfl, rfl, 0, by omega, rfl, hL0⟩ ?_
        clear hL0 HL7
        intro FF V3 hrel
        obtain ⟨f0, f3, f4, f5, f6, j, hj, f11, HLJ0⟩ := hrel
        have H11 : Hid (FF 11 = .int .i64 (j : Nat)) := f11
        rw [frame132, f0, f3, f4, f5, f6, f11]
        clear f0 f3 f4 f5 f6 f11
        obtain ⟨O9, hst9, hx9, hno9, hN9⟩ := HLJ0.out
        have hnl9 := hN9.len
        have hnd9 : stN.names.Nodup ∧ ∀ nm ∈ stN.names, nm.length ≤ 64 := by obtain ⟨_, _, _, ⟨_, _, _, _, _, _, _, _, hni⟩, _⟩ := hst9.sym; exact ⟨hni.tinv.nodup, hni.short⟩
        by_cases hjn : j < nn + 1
        · have hjn' : (j : Int) < ((nn + 1 : Nat) : Int) := by omega
          obtain ⟨nmj, hnmj⟩ : ∃ nmj, stN.names[j]? = some nmj := ⟨_, List.getElem?_eq_getElem (by omega)⟩
          have hnumj : (List.range stN.names.length)[j]? = some j := List.getElem?_range (by omega)
          obtain ⟨bn, Cn, hna, hCn, hcn, _, un⟩ := rw_cell (v := .string ⟨nmj.toArray⟩) (hN9.1.rw encS_len).1 hnmj rfl
          obtain ⟨bu, Cu, hua, hCu, hcu, _, uu⟩ := rw_cell (v := .int .i64 (j : Int)) (hN9.2.rw encK_len).1 hnumj rfl
          subst hna hua
          have hlk9 := lookS_any B O9 V3 bs stN hst9 nmj (by have := hnd9.2 nmj (List.mem_of_getElem? hnmj); omega)
          have elk : lookupF stN.names nmj = ((j : Int), 0) := by unfold lookupF; rw [lookF_at hnd9.1 hnmj]; rfl
          rw [elk] at hlk9
          have enm : nameF stN.names (j : Int) = (nmj, 0) := by
            unfold nameF
            rw [if_pos ⟨by omega, by omega⟩, Int.toNat_natCast, List.getD_eq_getElem?_getD, hnmj]; rfl
          have hns9 : ∀ V4, V3.Extends V4 → Calls Try.prog 18 #[.pointer (some ⟨bs, 0, none⟩), .int .i64 (j : Int)] V4 fun e W' => e = .returned (.tuple #[.string ⟨nmj.toArray⟩, .int .i64 0]) ∧ W' = V4 := fun V4 hx => by
            obtain ⟨ra, rn, rc, hy, _⟩ := (hst9.ext hx).sym
            have := nameS_any B O9 V4 bs stN.names ra rn rc (j : Int) hy
            rw [enm] at this
            exact this
          have HNS9 := hid_of hns9
          obtain ⟨sv, hsv⟩ : ∃ sv : ByteArray, sv = ⟨nmj.toArray⟩ := ⟨_, rfl⟩
          rw [← hsv] at un hlk9 HNS9
          have p0 : (0 : Int) ≤ (j : Int) := by omega
          have p2 : ((j : Int)).toNat = j := by omega
          have HLK : Hid (L7 W1 B bs V3 stN _ (nn + 1) nc' _ uc') := HLJ0.out
          clear hnmj hnumj elk enm hst9 hx9 hno9 hN9 hnl9 hnd9 hsv hns9 HLJ0
          go_wp2_with fail
          refine hlk9.mono ?_
          rintro e V4 ⟨rfl, hx4⟩
          have hCn4 : blk V4 bn = some Cn := (hx4.blk (blk_lt hCn)).trans hCn
          have hCu4 : blk V4 bu = some Cu := (hx4.blk (blk_lt hCu)).trans hCu
          have hn4 := HNS9.out V4 hx4
          have HLJ : Hid (L7 W1 B bs V4 stN _ (nn + 1) nc' _ uc') := HLK.out.ext hx4
          clear hx4 hlk9 HNS9 hCn hCu HLK
          dsimp only
          go_wp2_with fail
          refine hn4.mono ?_
          rintro e V5 ⟨rfl, rfl⟩
          dsimp only
          go_wp2_with fail
          refine ⟨rfl, rfl, ⟨rfl, rfl, rfl, rfl, rfl, j + 1, by omega, ?_, HLJ⟩, ?_⟩
          · show Value.int .i64 _ = _
            go_num
          · show (nn + 1) - (intOf (Value.int .i64 _)).toNat < (nn + 1) - (intOf (FF 11)).toNat
            rw [H11.out]
            simp [intOf]; omega
        · have hjn' : ¬ (j : Int) < ((nn + 1 : Nat) : Int) := by omega
          have hsy9 := symsS_any B O9 V3 bs stN hst9
          rw [hnl9] at hsy9
          have hcap9 := (hst9.caps 0).1
          have hnn9 : nn + 1 ≤ 256 := by omega
          have HLX := HLJ0
          clear hst9 hx9 hno9 hN9 hnl9 hnd9 HLJ0 hcap9
          go_wp2_with fail
          refine hsy9.mono ?_
          rintro e V4 ⟨rfl, rfl⟩
          dsimp only
          go_wp2_with fail
          refine ⟨rfl, rfl, ⟨rfl, rfl, i + 1, _, _, _, _, _, by omega, ?_, rfl, rfl, hnn9, ⟨_, HLX.out⟩⟩, ?_⟩
          · show Value.int .i64 _ = _
            go_num
          · show len - (intOf (Value.int .i64 _)).toNat < len - (intOf (F 6)).toNat
            rw [H6.out]
            simp [intOf]; omega
  · have HL7 : Hid (L7 W1 B bs W7 st6 na nn nc ua uc) := by
      obtain ⟨O7, g1, g2, g3, g4, _, _⟩ := HR7.out
      have hnm6 : st6.names = st.names := by
        by_cases hk0 : op.kind = 0
        · obtain ⟨hA, hst⟩ := play_kind0 HPR.out hk0
          have hc : (internF st.names (nmO op)).2.1 ≠ 0 := fun h => hkc ⟨hk0, by rw [hA]; exact h⟩
          rw [hst]
          exact intern_same hc
        · exact play_names HPR.out hk0
      exact ⟨O7, g1, g2, g3, by rw [hnm6]; exact g4⟩
    clear HR7 HPR HND HNL
    have hkb : ¬ (op.kind = 0 ∧ A.code = 0) := hkc
    by_cases hk0 : op.kind = 0
    · have hc0 : ¬ A.code = 0 := fun h => hkc ⟨hk0, h⟩
      have hc0b : (A.code == 0) = false := by simp [hc0]
      clear hkb hkc
      go_wp2_with fail
      have hL0 := HL7.out
      refine wp_loop_f 132 (l7J W1 (some ⟨b, o, none⟩) len cap B bs i na (nn) nc ua uc st6) (fun f _ => (nn) - (intOf (f 11)).toNat) rfl ⟨rfl, rfl, rfl, rfl, rfl, 0, by omega, rfl, hL0⟩ ?_
      clear hL0 HL7
      intro FF V3 hrel
      obtain ⟨f0, f3, f4, f5, f6, j, hj, f11, HLJ0⟩ := hrel
      have H11 : Hid (FF 11 = .int .i64 (j : Nat)) := f11
      rw [frame132, f0, f3, f4, f5, f6, f11]
      clear f0 f3 f4 f5 f6 f11
      obtain ⟨O9, hst9, hx9, hno9, hN9⟩ := HLJ0.out
      have hnl9 := hN9.len
      have hnd9 : st6.names.Nodup ∧ ∀ nm ∈ st6.names, nm.length ≤ 64 := by obtain ⟨_, _, _, ⟨_, _, _, _, _, _, _, _, hni⟩, _⟩ := hst9.sym; exact ⟨hni.tinv.nodup, hni.short⟩
      by_cases hjn : j < nn
      · have hjn' : (j : Int) < ((nn : Nat) : Int) := by omega
        obtain ⟨nmj, hnmj⟩ : ∃ nmj, st6.names[j]? = some nmj := ⟨_, List.getElem?_eq_getElem (by omega)⟩
        have hnumj : (List.range st6.names.length)[j]? = some j := List.getElem?_range (by omega)
        obtain ⟨bn, Cn, hna, hCn, hcn, _, un⟩ := rw_cell (v := .string ⟨nmj.toArray⟩) (hN9.1.rw encS_len).1 hnmj rfl
        obtain ⟨bu, Cu, hua, hCu, hcu, _, uu⟩ := rw_cell (v := .int .i64 (j : Int)) (hN9.2.rw encK_len).1 hnumj rfl
        subst hna hua
        have hlk9 := lookS_any B O9 V3 bs st6 hst9 nmj (by have := hnd9.2 nmj (List.mem_of_getElem? hnmj); omega)
        have elk : lookupF st6.names nmj = ((j : Int), 0) := by unfold lookupF; rw [lookF_at hnd9.1 hnmj]; rfl
        rw [elk] at hlk9
        have enm : nameF st6.names (j : Int) = (nmj, 0) := by
          unfold nameF
          rw [if_pos ⟨by omega, by omega⟩, Int.toNat_natCast, List.getD_eq_getElem?_getD, hnmj]; rfl
        have hns9 : ∀ V4, V3.Extends V4 → Calls Try.prog 18 #[.pointer (some ⟨bs, 0, none⟩), .int .i64 (j : Int)] V4 fun e W' => e = .returned (.tuple #[.string ⟨nmj.toArray⟩, .int .i64 0]) ∧ W' = V4 := fun V4 hx => by
          obtain ⟨ra, rn, rc, hy, _⟩ := (hst9.ext hx).sym
          have := nameS_any B O9 V4 bs st6.names ra rn rc (j : Int) hy
          rw [enm] at this
          exact this
        have HNS9 := hid_of hns9
        obtain ⟨sv, hsv⟩ : ∃ sv : ByteArray, sv = ⟨nmj.toArray⟩ := ⟨_, rfl⟩
        rw [← hsv] at un hlk9 HNS9
        have p0 : (0 : Int) ≤ (j : Int) := by omega
        have p2 : ((j : Int)).toNat = j := by omega
        have HLK : Hid (L7 W1 B bs V3 st6 _ (nn) nc _ uc) := HLJ0.out
        clear hnmj hnumj elk enm hst9 hx9 hno9 hN9 hnl9 hnd9 hsv hns9 HLJ0
        go_wp2_with fail
        refine hlk9.mono ?_
        rintro e V4 ⟨rfl, hx4⟩
        have hCn4 : blk V4 bn = some Cn := (hx4.blk (blk_lt hCn)).trans hCn
        have hCu4 : blk V4 bu = some Cu := (hx4.blk (blk_lt hCu)).trans hCu
        have hn4 := HNS9.out V4 hx4
        have HLJ : Hid (L7 W1 B bs V4 st6 _ (nn) nc _ uc) := HLK.out.ext hx4
        clear hx4 hlk9 HNS9 hCn hCu HLK
        dsimp only
        go_wp2_with fail
        refine hn4.mono ?_
        rintro e V5 ⟨rfl, rfl⟩
        dsimp only
        go_wp2_with fail
        refine ⟨rfl, rfl, ⟨rfl, rfl, rfl, rfl, rfl, j + 1, by omega, ?_, HLJ⟩, ?_⟩
        · show Value.int .i64 _ = _
          go_num
        · show (nn) - (intOf (Value.int .i64 _)).toNat < (nn) - (intOf (FF 11)).toNat
          rw [H11.out]
          simp [intOf]; omega
      · have hjn' : ¬ (j : Int) < ((nn : Nat) : Int) := by omega
        have hsy9 := symsS_any B O9 V3 bs st6 hst9
        rw [hnl9] at hsy9
        have hcap9 := (hst9.caps 0).1
        have hnn9 : nn ≤ 256 := by omega
        have HLX := HLJ0
        clear hst9 hx9 hno9 hN9 hnl9 hnd9 HLJ0 hcap9
        go_wp2_with fail
        refine hsy9.mono ?_
        rintro e V4 ⟨rfl, rfl⟩
        dsimp only
        go_wp2_with fail
        refine ⟨rfl, rfl, ⟨rfl, rfl, i + 1, _, _, _, _, _, by omega, ?_, rfl, rfl, hnn9, ⟨_, HLX.out⟩⟩, ?_⟩
        · show Value.int .i64 _ = _
          go_num
        · show len - (intOf (Value.int .i64 _)).toNat < len - (intOf (F 6)).toNat
          rw [H6.out]
          simp [intOf]; omega
    · have hk0b : (op.kind == 0) = false := by simp [hk0]
      clear hkb hkc
      go_wp2_with fail
      have hL0 := HL7.out
      refine wp_loop_f 132 (l7J W1 (some ⟨b, o, none⟩) len cap B bs i na (nn) nc ua uc st6) (fun f _ => (nn) - (intOf (f 11)).toNat) rfl ⟨rfl, rfl, rfl, rfl, rfl, 0, by omega, rfl, hL0⟩ ?_
      clear hL0 HL7
      intro FF V3 hrel
      obtain ⟨f0, f3, f4, f5, f6, j, hj, f11, HLJ0⟩ := hrel
      have H11 : Hid (FF 11 = .int .i64 (j : Nat)) := f11
      rw [frame132, f0, f3, f4, f5, f6, f11]
      clear f0 f3 f4 f5 f6 f11
      obtain ⟨O9, hst9, hx9, hno9, hN9⟩ := HLJ0.out
      have hnl9 := hN9.len
      have hnd9 : st6.names.Nodup ∧ ∀ nm ∈ st6.names, nm.length ≤ 64 := by obtain ⟨_, _, _, ⟨_, _, _, _, _, _, _, _, hni⟩, _⟩ := hst9.sym; exact ⟨hni.tinv.nodup, hni.short⟩
      by_cases hjn : j < nn
      · have hjn' : (j : Int) < ((nn : Nat) : Int) := by omega
        obtain ⟨nmj, hnmj⟩ : ∃ nmj, st6.names[j]? = some nmj := ⟨_, List.getElem?_eq_getElem (by omega)⟩
        have hnumj : (List.range st6.names.length)[j]? = some j := List.getElem?_range (by omega)
        obtain ⟨bn, Cn, hna, hCn, hcn, _, un⟩ := rw_cell (v := .string ⟨nmj.toArray⟩) (hN9.1.rw encS_len).1 hnmj rfl
        obtain ⟨bu, Cu, hua, hCu, hcu, _, uu⟩ := rw_cell (v := .int .i64 (j : Int)) (hN9.2.rw encK_len).1 hnumj rfl
        subst hna hua
        have hlk9 := lookS_any B O9 V3 bs st6 hst9 nmj (by have := hnd9.2 nmj (List.mem_of_getElem? hnmj); omega)
        have elk : lookupF st6.names nmj = ((j : Int), 0) := by unfold lookupF; rw [lookF_at hnd9.1 hnmj]; rfl
        rw [elk] at hlk9
        have enm : nameF st6.names (j : Int) = (nmj, 0) := by
          unfold nameF
          rw [if_pos ⟨by omega, by omega⟩, Int.toNat_natCast, List.getD_eq_getElem?_getD, hnmj]; rfl
        have hns9 : ∀ V4, V3.Extends V4 → Calls Try.prog 18 #[.pointer (some ⟨bs, 0, none⟩), .int .i64 (j : Int)] V4 fun e W' => e = .returned (.tuple #[.string ⟨nmj.toArray⟩, .int .i64 0]) ∧ W' = V4 := fun V4 hx => by
          obtain ⟨ra, rn, rc, hy, _⟩ := (hst9.ext hx).sym
          have := nameS_any B O9 V4 bs st6.names ra rn rc (j : Int) hy
          rw [enm] at this
          exact this
        have HNS9 := hid_of hns9
        obtain ⟨sv, hsv⟩ : ∃ sv : ByteArray, sv = ⟨nmj.toArray⟩ := ⟨_, rfl⟩
        rw [← hsv] at un hlk9 HNS9
        have p0 : (0 : Int) ≤ (j : Int) := by omega
        have p2 : ((j : Int)).toNat = j := by omega
        have HLK : Hid (L7 W1 B bs V3 st6 _ (nn) nc _ uc) := HLJ0.out
        clear hnmj hnumj elk enm hst9 hx9 hno9 hN9 hnl9 hnd9 hsv hns9 HLJ0
        go_wp2_with fail
        refine hlk9.mono ?_
        rintro e V4 ⟨rfl, hx4⟩
        have hCn4 : blk V4 bn = some Cn := (hx4.blk (blk_lt hCn)).trans hCn
        have hCu4 : blk V4 bu = some Cu := (hx4.blk (blk_lt hCu)).trans hCu
        have hn4 := HNS9.out V4 hx4
        have HLJ : Hid (L7 W1 B bs V4 st6 _ (nn) nc _ uc) := HLK.out.ext hx4
        clear hx4 hlk9 HNS9 hCn hCu HLK
        dsimp only
        go_wp2_with fail
        refine hn4.mono ?_
        rintro e V5 ⟨rfl, rfl⟩
        dsimp only
        go_wp2_with fail
        refine ⟨rfl, rfl, ⟨rfl, rfl, rfl, rfl, rfl, j + 1, by omega, ?_, HLJ⟩, ?_⟩
        · show Value.int .i64 _ = _
          go_num
        · show (nn) - (intOf (Value.int .i64 _)).toNat < (nn) - (intOf (FF 11)).toNat
          rw [H11.out]
          simp [intOf]; omega
      · have hjn' : ¬ (j : Int) < ((nn : Nat) : Int) := by omega
        have hsy9 := symsS_any B O9 V3 bs st6 hst9
        rw [hnl9] at hsy9
        have hcap9 := (hst9.caps 0).1
        have hnn9 : nn ≤ 256 := by omega
        have HLX := HLJ0
        clear hst9 hx9 hno9 hN9 hnl9 hnd9 HLJ0 hcap9
        go_wp2_with fail
        refine hsy9.mono ?_
        rintro e V4 ⟨rfl, rfl⟩
        dsimp only
        go_wp2_with fail
        refine ⟨rfl, rfl, ⟨rfl, rfl, i + 1, _, _, _, _, _, by omega, ?_, rfl, rfl, hnn9, ⟨_, HLX.out⟩⟩, ?_⟩
        · show Value.int .i64 _ = _
          go_num
        · show len - (intOf (Value.int .i64 _)).toNat < len - (intOf (F 6)).toNat
          rw [H6.out]
          simp [intOf]; omega
end Go.Proofs.Qxb6500789a
