import Derived.Test.Qxb6500789aZj
import Derived.StillTailTactics
import Derived.Deep.QuietTactic
import Derived.BigQuiet
import Derived.Deep.RegionHeld
import Derived.Deep.CutRange
import Derived.Laws.ResultCell
import Derived.Laws.Rows
import Derived.DeepKeys
import Derived.DataBytes
import Derived.Laws.StructEq
import Derived.Laws.AppendOwn
import Derived.Laws.MakeOwn
import Derived.Lib.AppendStr
set_option linter.unusedSimpArgs false
set_option linter.unusedVariables false
namespace Go.Proofs.Qxb6500789a
open Go.RowKit Go.Blk
attribute [local go_sem ↓] execOp_load execOp_store execOp_alloc
attribute [local go_sem] Try.ld29 Try.st29 Try.ld3 Try.st3 Try.ld9 Try.st9 Try.ld30 Try.st30 Try.ld34 Try.st34 Try.ld35 Try.st35 Try.ld36 Try.st36 Try.ld37 Try.st37 Try.ld44 Try.st44 Try.ld45 Try.st45 Try.ld54 Try.st54 Try.ld55 Try.st55 Try.ld74 Try.st74 Try.ld80 Try.st80 Try.ld84 Try.st84 Try.ld106 Try.st106 Try.ld107 Try.st107 Try.ld4 Try.st4 Try.ld121 Try.st121 Try.ld2 Try.st2 Try.ld5 Try.st5 Try.ld12 Try.st12 Try.ld21 Try.st21 Try.ld22 Try.st22 Try.ld24 Try.st24 Try.ld26 Try.st26 Try.ld63 Try.st63 Try.ld71 Try.st71 Try.ld103 Try.st103 Try.ld130 Try.st130 Try.ld133 Try.st133 Try.ld140 Try.st140 Try.ld152 Try.st152 Try.ld39 Try.st39 Try.ld32 Try.st32 Try.ld41 Try.st41 Try.ld47 Try.st47 Try.ld57 Try.st57 Try.ld62 Try.st62 Try.ld76 Try.st76 Try.ld82 Try.st82 Try.ld86 Try.st86 Try.ld109 Try.st109 Try.ld115 Try.st115 Try.ld123 Try.st123 Try.ld135 Try.st135 Try.al39 Try.al32 Try.al41 Try.al47 Try.al57 Try.al62 Try.al76 Try.al82 Try.al86 Try.al109 Try.al115 Try.al123 Try.al135
attribute [local go_sem] Answer.length_enc Answer.ok_enc Answer.all_get Answer.all_set Answer.code_get Answer.code_set Answer.n_get Answer.n_set Answer.name_get Answer.name_set Answer.rows_get Answer.rows_set GOp.length_enc GOp.ok_enc GOp.all_get GOp.all_set GOp.kind_get GOp.kind_set GOp.rel_get GOp.rel_set GOp.mask_get GOp.mask_set GOp.t_get GOp.t_set GOp.n_get GOp.n_set GOp.name_get GOp.name_set Store.length_enc Store.ok_enc Store.all_get Store.all_set Store.names_get Store.names_set Store.rels_get Store.rels_set GRel.length_enc GRel.ok_enc GRel.all_get GRel.all_set GRel.arity_get GRel.arity_set GRel.masks_get GRel.masks_set GRel.rows_get GRel.rows_set Row.length_enc Row.ok_enc Row.all_get Row.all_set Row.t_get Row.t_set Row.mark_get Row.mark_set View.length_enc View.ok_enc View.all_get View.all_set View.names_get View.names_set View.rels_get View.rels_set Symtab.length_enc Symtab.ok_enc Symtab.all_get Symtab.all_set Symtab.names_get Symtab.names_set Symtab.table_get Symtab.table_set StoreTuplestore.length_enc StoreTuplestore.ok_enc StoreTuplestore.all_get StoreTuplestore.all_set StoreTuplestore.syms_get StoreTuplestore.syms_set StoreTuplestore.rels_get StoreTuplestore.rels_set StoreTuplestore.syms_names_get StoreTuplestore.syms_names_set StoreTuplestore.syms_table_get StoreTuplestore.syms_table_set Relation.length_enc Relation.ok_enc Relation.all_get Relation.all_set Relation.arity_get Relation.arity_set Relation.slots_get Relation.slots_set Relation.live_get Relation.live_set Relation.idx_get Relation.idx_set Slot.length_enc Slot.ok_enc Slot.all_get Slot.all_set Slot.t_get Slot.t_set Slot.mark_get Slot.mark_set Slot.live_get Slot.live_set RelView.length_enc RelView.ok_enc RelView.all_get RelView.all_set RelView.arity_get RelView.arity_set RelView.rows_get RelView.rows_set RelView.marks_get RelView.marks_set RelView.indexed_get RelView.indexed_set Index.length_enc Index.ok_enc Index.all_get Index.all_set Index.mask_get Index.mask_set Index.heads_get Index.heads_set Index.next_get Index.next_set
attribute [local go_sem] size_put size_ext blk_put free_put blk_alloc free_alloc blk_drew free_drew blk_ext free_ext lookOr_some putOr_some segAt_some cellAt_some storeIn_some put_put put_alloc_new length_arr ok_arr_u8 ok_arr_u32 ok_arr_u64 ok_arr_i64 ok_arr_sl cellsV_agg cellsV_int cellsV_bool cellsV_string cellsV_pointer cellsV_slice cellsV_sl ok_int ok_bool ok_string ok_pointer ok_slice ok_sl toList_arr seg_arr set_arr nth_splice nth_splice0 seg_splice seg_splice0 splice_splice splice_splice0 length_splice_if
attribute [local go_sem ↓] execOp_box
attribute [local go_sem] box_run nth_arr_u8 put_arr_u8 blk_drewN free_drewN put_drewN blk_raw free_raw
attribute [local go_sem] v_len v_ok v_n0 v_n1 v_s0 v_s1 v_all v_put b32_0 b32_c b32_n b32_cn b32_s b32_r b57
attribute [local go_sem ↓] execOp_build execOp_bslice
attribute [local go_sem] mr_len mr_ok mr_n0 mr_n1 mr_n2 mr_s1 mr_s2 mr_all mr_putz bslice45 bslice54
attribute [local go_sem] bslice30
theorem Outs.rw' {W V : World} {a : Option Addr} {n c : Nat} {ts : List Tup} (h : Outs W V a n c ts) : Rw tpl 4 V a n ts := (rw_own tpl_len h.1).1
set_option maxRecDepth 20000 in
theorem sameBag_perm (W : World) (a : Option Addr) (n c : Nat) (a' : Option Addr) (n' c' : Nat) (ts ts' : List Tup) (h : Rw tpl 4 W a n ts) (h' : Rw tpl 4 W a' n' ts') (hp : ts'.Perm ts) (hn : n ≤ 10000) : Calls Try.prog 21 #[.slice a n c, .slice a' n' c'] W fun e W' => e = .returned (.bool true) ∧ W.Extends W' := by
  have hn' : n' ≤ 10000 := by rw [← h'.1, hp.length_eq, h.1]; exact hn
  have H' := hid_of h'
  have HP := hid_of hp
  have hs1 := sorted_any W a n c ts h hn
  clear h' hp h
  go_enter Try.func21, Try.ntmps21
  go_wp2_with fail
  refine hs1.mono ?_
  rintro e W1 ⟨a1, n1, c1, us1, rfl, ho1, hp1, hso1⟩
  have hs2 := sorted_any W1 a' n' c' ts' (H'.out.ext' ho1.2.1) hn'
  have H1 := hid_of (And.intro ho1 (And.intro hp1 hso1))
  clear ho1 hp1 hso1 hs1
  dsimp only
  go_wp2_with fail
  refine hs2.mono ?_
  rintro e W2 ⟨a2, n2, c2, us2, rfl, ho2, hp2, hso2⟩
  obtain ⟨ho1, hp1, hso1⟩ := H1.out
  have e : us2 = us1 := sorted_eq hso2 hso1 (hp2.trans (HP.out.trans hp1.symm))
  rw [e] at ho2 hp2
  have hl : n1 ≤ 1000000 := by
    have h2 := ho2.2.2
    have h1 := ho1.2.2
    have h3 := hp2.length_eq
    have h4 := H'.out.1
    omega
  have hsl := sameList_eq W2 a1 n1 c1 a2 n2 c2 us1 ((rw_own tpl_len (ho1.ext ho2.2.1).1).1) ho2.rw' hl
  have HX := hid_of (ho1.2.1.trans ho2.2.1)
  clear hs2 ho1 hp1 hso1 ho2 hp2 hso2 H1 e
  dsimp only
  go_wp2_with fail
  refine hsl.mono ?_
  rintro e W3 ⟨rfl, k, rfl⟩
  dsimp only
  go_wp2_with fail
  go_ret
  exact ⟨rfl, extends_drewN HX.out _⟩
set_option maxRecDepth 20000 in
set_option maxHeartbeats 1000000 in
theorem sameAnswer_eq (W : World) (A A' : Answer) (ts ts' : List Tup) (h : Rw tpl 4 W A.rows.a A.rows.len ts) (h' : Rw tpl 4 W A'.rows.a A'.rows.len ts') (hc : A'.code = A.code) (hn : A'.n = A.n) (hnm : A'.name = A.name) (hp : ts'.Perm ts) (hl : ts.length ≤ 10000) : Calls Try.prog 13 #[.agg A.enc.toArray, .agg A'.enc.toArray] W fun e W' => e = .returned (.bool true) ∧ W.Extends W' := by
  obtain ⟨c, n, nm, ⟨ra, rn, rc⟩⟩ := A
  obtain ⟨c', n', nm', ⟨ra', rn', rc'⟩⟩ := A'
  dsimp only at h h' hc hn hnm
  subst hc hn hnm
  have H := hid_of (And.intro h h')
  have HP := hid_of hp
  have hrl : rn ≤ 10000 := by rw [← h.1]; exact hl
  clear h h' hp hl
  go_enter Try.func13, Try.ntmps13
  go_upto_region 1 with fail
  refine wp_world (fun W1 => blk W1 W.heap.size = some (Answer.enc ⟨c', n', nm', ⟨ra, rn, rc⟩⟩) ∧ blk W1 (W.heap.size + 1) = some (Answer.enc ⟨c', n', nm', ⟨ra', rn', rc'⟩⟩) ∧ W.Extends W1) ⟨?_, ?_, extends_alloc (extends_alloc (ext_Ext (Ext.refl _)) _) _⟩ ?_
  · rw [blk_alloc, if_neg (by rw [World.size_alloc]; omega), blk_alloc, if_pos rfl]
  · rw [blk_alloc, if_pos (by rw [World.size_alloc])]
  rintro W1 ⟨hb2, hb3, hx1⟩
  obtain ⟨b3, e3⟩ : ∃ b3, b3 = W.heap.size + 1 := ⟨_, rfl⟩
  obtain ⟨b2, e2⟩ : ∃ b2, b2 = W.heap.size := ⟨_, rfl⟩
  try simp only [World.size_alloc]
  rw [← e3] at hb3 ⊢
  rw [← e2] at hb2 ⊢
  have hsb := sameBag_perm W1 ra rn rc ra' rn' rc' ts ts' (H.out.1.ext' hx1) (H.out.2.ext' hx1) HP.out hrl
  have HX := hid_of hx1
  clear e2 e3 hx1
  go_wp2_with fail
  refine hsb.mono ?_
  rintro e W2 ⟨rfl, hx2⟩
  dsimp only
  go_wp2_with fail
  go_ret
  exact ⟨rfl, HX.out.trans hx2⟩
def toI (V2 : World) (bm n wn : Nat) (L : List (Tup × Int)) (f : Nat → Value) (W : World) : Prop := f 0 = .pointer (some ⟨bm, 0, none⟩) ∧ f 1 = .int .i64 (n : Int) ∧ ∃ (i : Nat) (a : Option Addr) (m c : Nat), i ≤ wn ∧ f 6 = .int .i64 (i : Nat) ∧ f 5 = .slice a m c ∧ Hid (Outs V2 W a m c ((L.take i).map (·.1)))
set_option maxRecDepth 20000 in
set_option maxHeartbeats 2000000 in
theorem tuplesOf_any (B : Nat) (O : Own) (W : World) (bm : Nat) (sm : StS) (h : MAt B O W bm sm) (hm : MSm sm) (n : Nat) (s : RelS) (hs : sm.rels[n]? = some s) : Calls Try.prog 22 #[.pointer (some ⟨bm, 0, none⟩), .int .i64 (n : Int)] W fun e W' => ∃ a m c, e = .returned (.slice a m c) ∧ Outs W W' a m c ((rowsOf s.L).map (·.1)) := by
  have hsm := hm.rel s (List.mem_of_getElem? hs)
  obtain ⟨na, nn, nc, gr, rn, rc, Cr, ka, kn, kc, wa, wn, wc, ho, _, _⟩ := mat_open h hs
  obtain ⟨hb, hnn, hrn, hn, hC, hl, c0, c1, c2, _, hw⟩ := ho
  obtain ⟨L, hL⟩ : ∃ L, L = rowsOf s.L := ⟨_, rfl⟩
  rw [← hL] at hw hsm ⊢
  have hwl := hw.1
  have hwn : wn ≤ 512 := by have := hsm.2.1; omega
  have HW := hid_of hw
  have HWL := hid_of hwl
  have d1 : n * 3 + 2 + 1 ≤ Cr.length := by omega
  have d2 : n * 3 < Cr.length := by omega
  have q0 : (0 : Int) ≤ (n : Int) := by omega
  have q1 : (n : Int) < (rn : Int) := by omega
  have q2 : ((n : Int)).toNat = n := by omega
  obtain ⟨Q, hQ⟩ : ∃ Q : Ending → World → Prop, Q = fun e W' => ∃ a m c, e = .returned (.slice a m c) ∧ Outs W W' a m c (L.map (·.1)) := ⟨_, rfl⟩
  rw [← hQ]
  have HQ := hid_of hQ
  have HK2 : Hid (blk W bm = some (vE na nn nc (some ⟨gr, 0, none⟩) rn rc) ∧ blk W gr = some Cr) := ⟨hb, hC⟩
  clear hnn hrn hn c0 c1 hl hw hwl hL hsm hQ hm h hs
  go_enter Try.func22, Try.ntmps22
  go_wp2_with fail
  have HQ0 : Hid (Outs W W none 0 0 ((L.take 0).map (·.1))) := Outs.nil _ _ (ext_Ext (Ext.refl _))
  refine wp_loop_f 36 (toI W bm n wn L) (fun f _ => wn - (intOf (f 6)).toNat) rfl ⟨rfl, rfl, 0, none, 0, 0, by omega, rfl, rfl, HQ0⟩ ?_
  clear HQ0 hb hC
  intro F V hrel
  obtain ⟨f0, f1, i, a, m, c, hi, f6, f5, HO⟩ := hrel
  have H6 := hid_of f6
  rw [frame36, f0, f1, f5, f6]
  clear f0 f1 f5 f6
  have hE := HO.out.2.1
  have hb : blk V bm = some (vE na nn nc (some ⟨gr, 0, none⟩) rn rc) := (hE.blk (blk_lt HK2.out.1)).trans HK2.out.1
  have hC : blk V gr = some Cr := (hE.blk (blk_lt HK2.out.2)).trans HK2.out.2
  by_cases hin : i < wn
  · have hin' : (i : Int) < (wn : Int) := by omega
    obtain ⟨r, hr⟩ : ∃ r, L[i]? = some r := ⟨_, List.getElem?_eq_getElem (by rw [HWL.out]; exact hin)⟩
    obtain ⟨bn, Cn, rfl, hCn, hcn, _, un, _, _⟩ := wrow_at (HW.out.ext' hE) hr
    have p0 : (0 : Int) ≤ (i : Int) := by omega
    have p2 : ((i : Int)).toNat = i := by omega
    have p4 : i * 5 + 4 ≤ Cn.length := by omega
    have p5 : i * 5 < Cn.length := by omega
    obtain ⟨a', c', V', hrun, ho'⟩ := HO.out.app r.1 (by rw [List.length_map, List.length_take]; omega)
    have HO' : Hid (Outs W V' a' (m + 1) c' ((L.take (i + 1)).map (·.1))) := by
      show Outs _ _ _ _ _ _
      rw [List.take_add_one, hr, List.map_append]; exact ho'
    obtain ⟨x, hx⟩ : ∃ x, x = r.1 := ⟨_, rfl⟩
    rw [← hx] at un hrun
    clear HO hE ho' hr hx
    go_wp2_with (at_builtin; refine wpList_append_run rfl _ _ 30 rfl _ _ _ _ rfl rfl hrun ?_)
    refine ⟨rfl, rfl, ⟨rfl, rfl, i + 1, _, _, _, by omega, ?_, rfl, HO'⟩, ?_⟩
    · show Value.int .i64 _ = _
      go_num
    · show wn - (intOf (Value.int .i64 _)).toNat < wn - (intOf (F 6)).toNat
      rw [H6.out]
      simp [intOf]; omega
  · have hin' : ¬ (i : Int) < (wn : Int) := by omega
    have HP : Hid (Q (.returned (.slice a m c)) V) := by
      show Q _ _
      rw [HQ.out]
      have := HO.out
      rw [List.take_of_length_le (by rw [HWL.out]; omega)] at this
      exact ⟨a, m, c, rfl, this⟩
    clear HO hE
    go_wp2_with fail
    try go_ret
    exact HP.out
theorem b47 (w : World) : (buildOp 47 #[]).run Try.prog w = .ok (.value (.agg (vE none 0 0 none 0 0).toArray)) w := by kernel_rfl
attribute [local go_sem] b47
def MNewPost (B : Nat) (O : Own) (W : World) (e : Ending) (W' : World) : Prop := ∃ bm O', e = .returned (.pointer (some ⟨bm, 0, none⟩)) ∧ W.Extends W' ∧ (∀ k, k < W.heap.size → O' k = O k) ∧ W.heap.size ≤ bm ∧ MAt B O' W' bm ⟨[], []⟩
set_option maxRecDepth 20000 in
theorem mnew_any (B : Nat) (O : Own) (W : World) (hB : B ≤ W.heap.size) : Calls Try.prog 12 #[] W (MNewPost B O W) := by
  have HP : Hid (MNewPost B O W (.returned (.pointer (some ⟨W.heap.size, 0, none⟩))) (W.alloc (.cells (vE none 0 0 none 0 0).toArray 47))) := by
    have hx : W.Extends (W.alloc (.cells (vE none 0 0 none 0 0).toArray 47)) := extends_alloc (ext_Ext (Ext.refl _)) _
    refine ⟨W.heap.size, lab O W.heap.size (.cl 0), rfl, hx, fun k hk => lab_lt hk, Nat.le_refl _, none, 0, 0, none, 0, 0, [], ?_⟩
    exact ⟨Nat.le_trans hB hx.size, (blk_alloc _ _ _ _).trans (if_pos rfl), (by unfold free; rw [heap_alloc, if_pos rfl]; rfl), lab_ge (Nat.le_refl _), RowL.nil _ _ _ _ _ _, RowL.nil _ _ _ _ _ _, rfl, fun i d s hd => by simp at hd⟩
  obtain ⟨Q, hQ⟩ : ∃ Q, Q = MNewPost B O W := ⟨_, rfl⟩
  rw [← hQ]
  rw [← hQ] at HP
  clear hQ hB
  go_enter Try.func12, Try.ntmps12
  go_wp2_with fail
  try go_ret
  exact HP.out
end Go.Proofs.Qxb6500789a
