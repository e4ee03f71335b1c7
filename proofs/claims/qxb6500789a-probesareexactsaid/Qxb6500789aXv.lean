import Derived.Test.Qxb6500789aXu
import Derived.StillTailTactics
import Derived.Deep.QuietTactic
import Derived.BigQuiet
import Derived.Deep.RegionHeld
import Derived.Deep.CutRange
import Derived.Laws.ResultCell
import Derived.Laws.Rows
import Derived.DeepKeys
import Derived.DataBytes
import Derived.Laws.StructEq
import Derived.Laws.AppendOwn
import Derived.Laws.MakeOwn
import Derived.Lib.AppendStr
set_option linter.unusedSimpArgs false
set_option linter.unusedVariables false
namespace Go.Proofs.Qxb6500789a
open Go.RowKit Go.Blk
attribute [local go_sem ↓] execOp_load execOp_store execOp_alloc
attribute [local go_sem] Try.ld29 Try.st29 Try.ld3 Try.st3 Try.ld9 Try.st9 Try.ld30 Try.st30 Try.ld34 Try.st34 Try.ld35 Try.st35 Try.ld36 Try.st36 Try.ld37 Try.st37 Try.ld44 Try.st44 Try.ld45 Try.st45 Try.ld54 Try.st54 Try.ld55 Try.st55 Try.ld74 Try.st74 Try.ld80 Try.st80 Try.ld84 Try.st84 Try.ld106 Try.st106 Try.ld107 Try.st107 Try.ld4 Try.st4 Try.ld121 Try.st121 Try.ld2 Try.st2 Try.ld5 Try.st5 Try.ld12 Try.st12 Try.ld21 Try.st21 Try.ld22 Try.st22 Try.ld24 Try.st24 Try.ld26 Try.st26 Try.ld63 Try.st63 Try.ld71 Try.st71 Try.ld103 Try.st103 Try.ld130 Try.st130 Try.ld133 Try.st133 Try.ld140 Try.st140 Try.ld152 Try.st152 Try.ld39 Try.st39 Try.ld32 Try.st32 Try.ld41 Try.st41 Try.ld47 Try.st47 Try.ld57 Try.st57 Try.ld62 Try.st62 Try.ld76 Try.st76 Try.ld82 Try.st82 Try.ld86 Try.st86 Try.ld109 Try.st109 Try.ld115 Try.st115 Try.ld123 Try.st123 Try.ld135 Try.st135 Try.al39 Try.al32 Try.al41 Try.al47 Try.al57 Try.al62 Try.al76 Try.al82 Try.al86 Try.al109 Try.al115 Try.al123 Try.al135
attribute [local go_sem] Answer.length_enc Answer.ok_enc Answer.all_get Answer.all_set Answer.code_get Answer.code_set Answer.n_get Answer.n_set Answer.name_get Answer.name_set Answer.rows_get Answer.rows_set GOp.length_enc GOp.ok_enc GOp.all_get GOp.all_set GOp.kind_get GOp.kind_set GOp.rel_get GOp.rel_set GOp.mask_get GOp.mask_set GOp.t_get GOp.t_set GOp.n_get GOp.n_set GOp.name_get GOp.name_set Store.length_enc Store.ok_enc Store.all_get Store.all_set Store.names_get Store.names_set Store.rels_get Store.rels_set GRel.length_enc GRel.ok_enc GRel.all_get GRel.all_set GRel.arity_get GRel.arity_set GRel.masks_get GRel.masks_set GRel.rows_get GRel.rows_set Row.length_enc Row.ok_enc Row.all_get Row.all_set Row.t_get Row.t_set Row.mark_get Row.mark_set View.length_enc View.ok_enc View.all_get View.all_set View.names_get View.names_set View.rels_get View.rels_set Symtab.length_enc Symtab.ok_enc Symtab.all_get Symtab.all_set Symtab.names_get Symtab.names_set Symtab.table_get Symtab.table_set StoreTuplestore.length_enc StoreTuplestore.ok_enc StoreTuplestore.all_get StoreTuplestore.all_set StoreTuplestore.syms_get StoreTuplestore.syms_set StoreTuplestore.rels_get StoreTuplestore.rels_set StoreTuplestore.syms_names_get StoreTuplestore.syms_names_set StoreTuplestore.syms_table_get StoreTuplestore.syms_table_set Relation.length_enc Relation.ok_enc Relation.all_get Relation.all_set Relation.arity_get Relation.arity_set Relation.slots_get Relation.slots_set Relation.live_get Relation.live_set Relation.idx_get Relation.idx_set Slot.length_enc Slot.ok_enc Slot.all_get Slot.all_set Slot.t_get Slot.t_set Slot.mark_get Slot.mark_set Slot.live_get Slot.live_set RelView.length_enc RelView.ok_enc RelView.all_get RelView.all_set RelView.arity_get RelView.arity_set RelView.rows_get RelView.rows_set RelView.marks_get RelView.marks_set RelView.indexed_get RelView.indexed_set Index.length_enc Index.ok_enc Index.all_get Index.all_set Index.mask_get Index.mask_set Index.heads_get Index.heads_set Index.next_get Index.next_set
attribute [local go_sem] size_put size_ext blk_put free_put blk_alloc free_alloc blk_drew free_drew blk_ext free_ext lookOr_some putOr_some segAt_some cellAt_some storeIn_some put_put put_alloc_new length_arr ok_arr_u8 ok_arr_u32 ok_arr_u64 ok_arr_i64 ok_arr_sl cellsV_agg cellsV_int cellsV_bool cellsV_string cellsV_pointer cellsV_slice cellsV_sl ok_int ok_bool ok_string ok_pointer ok_slice ok_sl toList_arr seg_arr set_arr nth_splice nth_splice0 seg_splice seg_splice0 splice_splice splice_splice0 length_splice_if
attribute [local go_sem ↓] execOp_box
attribute [local go_sem] box_run nth_arr_u8 put_arr_u8 blk_drewN free_drewN put_drewN blk_raw free_raw
def tpl (t : Tup) : List Value := arr i64v t
theorem tpl_len (t : Tup) : (tpl t).length = 4 := length_arr _ _
theorem tpl_one (t : Tup) : (tpl t).all (fun v => v.oneCell') = true := one_arr_i64 t
theorem bslice30_lit (w : World) (a b c d : Int) : (bsliceOp 30 1 #[(0, .agg #[.int .i64 a, .int .i64 b, .int .i64 c, .int .i64 d])]).run Try.prog w = .ok (.value (.slice (some ⟨w.heap.size, 0, none⟩) 1 1)) (w.alloc (.cells #[.int .i64 a, .int .i64 b, .int .i64 c, .int .i64 d] 39)) := by kernel_rfl
theorem bslice30 (w : World) (t : Tup) : (bsliceOp 30 1 #[(0, .agg (arr i64v t).toArray)]).run Try.prog w = .ok (.value (.slice (some ⟨w.heap.size, 0, none⟩) 1 1)) (w.alloc (.cells (arr i64v t).toArray 39)) := by
  have h := bslice30_lit w (tg t 0) (tg t 1) (tg t 2) (tg t 3)
  rw [arr4 t]; exact h
/-- Rows of tuples in new memory. -/
def Outs (W V : World) (a : Option Addr) (n c : Nat) (ts : List Tup) : Prop := V.ownsRow W.heap.size 39 4 (.slice a n c) ts.length (ts.flatMap tpl) ∧ W.Extends V ∧ n = ts.length
theorem Outs.ext {W V V' : World} {a : Option Addr} {n c : Nat} {ts : List Tup} (h : Outs W V a n c ts) (he : V.Extends V') : Outs W V' a n c ts :=
  ⟨row_keep h.1 (fun k hk => he.block k (row_at h.1 k hk).2.1), h.2.1.trans he, h.2.2⟩
theorem Outs.nil (W V : World) (he : W.Extends V) : Outs W V none 0 0 [] := ⟨⟨by simp, .inl ⟨rfl, rfl⟩⟩, he, rfl⟩
theorem Outs.app {W V : World} {a : Option Addr} {n c : Nat} {ts : List Tup} (h : Outs W V a n c ts) (t : Tup) (hl : ts.length ≤ 100000) :
    ∃ a' c' V', (Builtin.append_ #[30, 30] 30 #[.slice a n c, .slice (some ⟨V.heap.size, 0, none⟩) 1 1]).run Try.prog (V.alloc (.cells (arr i64v t).toArray 39)) = .ok (.slice a' (n + 1) c') V' ∧ Outs W V' a' (n + 1) c' (ts ++ [t]) := by
  have hx1 : V.Extends (V.alloc (.cells (arr i64v t).toArray 39)) := extends_alloc (ext_Ext (Ext.refl _)) _
  have h1 := h.ext hx1
  obtain ⟨v', V', hr, ho, hg, _⟩ := appG tpl 4 32 30 39 Try.underlying30 info39 tpl_len tpl_one (by omega) (by omega) W.heap.size (V.alloc (.cells (arr i64v t).toArray 39)) 30 (.slice a n c) ts t V.heap.size 1 h1.1 ((blk_alloc _ _ _ _).trans (if_pos rfl)) h1.2.1.size (by omega)
  obtain ⟨a', c', rfl⟩ := row_val ho
  have hm : (ts ++ [t]).length = n + 1 := by rw [List.length_append, List.length_singleton, h.2.2]
  rw [hm] at hr
  exact ⟨a', c', V', hr, by rw [← hm]; exact ho, grown_ext h1.2.1 hg (fun k hk => (row_at h1.1 k hk).1), hm.symm⟩
theorem row_base {B B' : Nat} {W : World} {e : TypeId} {size : Nat} {v : Value} {n : Nat} {xs : List Value} (h : W.ownsRow B e size v n xs) (hb : B' ≤ B) : W.ownsRow B' e size v n xs := by
  obtain ⟨h1, h2 | ⟨g, cap, cur, e1, e2, e3, e4⟩⟩ := h
  · exact ⟨h1, .inl h2⟩
  · exact ⟨h1, .inr ⟨g, cap, cur, e1, Nat.le_trans hb e2, e3, e4⟩⟩
theorem Outs.base {W W0 V : World} {a : Option Addr} {n c : Nat} {ts : List Tup} (h : Outs W0 V a n c ts) (he : W.Extends W0) : Outs W V a n c ts := ⟨row_base h.1 he.size, he.trans h.2.1, h.2.2⟩
theorem hP_agree {t u : Tup} {m : Nat} (h : Agree t u m) : ∀ c, c ≤ 4 → hP t m c = hP u m c
  | 0, _ => rfl
  | c + 1, hc => by
    unfold hP
    rw [hP_agree h c (by omega)]
    by_cases hb : m.testBit c = true
    · rw [if_pos hb, if_pos hb, h c (by omega) hb]
    · rw [if_neg hb, if_neg hb]
theorem hash_agree {t u : Tup} {m : Nat} (h : Agree t u m) : hashF t m = hashF u m := by unfold hashF; rw [hP_agree h 4 (Nat.le_refl _)]
def probeF (L : List Slot) (mk : Nat) (key : Tup) : List Tup := ((liveL L).filter (fun s => agreeF s.t key mk)).map (·.t)
theorem probeF_app (A B' : List Slot) (mk : Nat) (key : Tup) : probeF (A ++ B') mk key = probeF A mk key ++ probeF B' mk key := by
  unfold probeF; rw [liveL_app, List.filter_append, List.map_append]
theorem probeF_one (s : Slot) (mk : Nat) (key : Tup) : probeF [s] mk key = if s.live = true ∧ agreeF s.t key mk = true then [s.t] else [] := by
  unfold probeF liveL
  cases h1 : s.live <;> cases h2 : agreeF s.t key mk <;> simp [h1, h2]
theorem probeF_skip (L : List Slot) (mk : Nat) (key : Tup) (k : Nat) : ∀ a, a ≤ k → (∀ j s, a ≤ j → j < k → L[j]? = some s → ¬ (s.live = true ∧ agreeF s.t key mk = true)) → probeF (L.drop a) mk key = probeF (L.drop k) mk key := by
  intro a ha h
  induction hd : k - a generalizing a with
  | zero => obtain rfl : a = k := by omega
            rfl
  | succ d ih =>
    have h1 := ih (a + 1) (by omega) (fun j s h1 h2 h3 => h j s (by omega) h2 h3) (by omega)
    by_cases hl : a < L.length
    · rw [List.drop_eq_getElem_cons hl, show L[a] :: L.drop (a + 1) = [L[a]] ++ L.drop (a + 1) from rfl, probeF_app, probeF_one, if_neg (h a _ (Nat.le_refl _) (by omega) (List.getElem?_eq_getElem hl)), List.nil_append]
      exact h1
    · rw [← h1, List.drop_eq_nil_of_le (by omega), List.drop_eq_nil_of_le (by omega)]
def ProbePost (W : World) (L : List Slot) (mk : Nat) (key : Tup) (e : Ending) (W' : World) : Prop := ∃ a n c ts, e = .returned (.slice a n c) ∧ Outs W W' a n c ts ∧ ts.Perm (probeF L mk key) ∧ (mk = 0 → ts = probeF L mk key)
def prI (W : World) (gr o b5 : Nat) (mk sn : Nat) (L : List Slot) (key : Tup) (f : Nat → Value) (V : World) : Prop := f 0 = .pointer (some ⟨gr, o, none⟩) ∧ f 1 = .int .i64 (mk : Int) ∧ f 5 = .pointer (some ⟨b5, 0, none⟩) ∧ ∃ (n : Nat) (a : Option Addr) (m c : Nat), n ≤ sn ∧ f 9 = .int .i64 (n : Nat) ∧ f 7 = .slice a m c ∧ Hid (∃ ts, Outs W V a m c ts ∧ ts = probeF (L.take n) mk key)
def pcI (W : World) (gr o b5 gi q : Nat) (mk : Nat) (L : List Slot) (key : Tup) (bs : List Nat) (b : Nat) (m9 : Nat) (f : Nat → Value) (V : World) : Prop :=
  f 0 = .pointer (some ⟨gr, o, none⟩) ∧ f 1 = .int .i64 (mk : Int) ∧ f 5 = .pointer (some ⟨b5, 0, none⟩) ∧ f 10 = .pointer (some ⟨gi, q, none⟩) ∧ ∃ (n : Nat) (a : Option Addr) (m c : Nat), f 11 = .int .i64 (n : Nat) ∧ m9 = n ∧ n ≤ L.length ∧ f 7 = .slice a m c ∧ Hid (∃ k ts, n = lastB (bs.take k) b ∧ k ≤ L.length ∧ Outs W V a m c ts ∧ ts.Perm (probeF (L.drop k) mk key))
set_option maxRecDepth 100000 in
theorem frame120 (f : Nat → Value) : frameN 120 f = #[f 0, f 1, f 2, f 3, f 4, f 5, f 6, f 7, f 8, f 9, f 10, f 11, f 12, f 13, f 14, f 15, f 16, f 17, f 18, f 19, f 20, f 21, f 22, f 23, f 24, f 25, f 26, f 27, f 28, f 29, f 30, f 31, f 32, f 33, f 34, f 35, f 36, f 37, f 38, f 39, f 40, f 41, f 42, f 43, f 44, f 45, f 46, f 47, f 48, f 49, f 50, f 51, f 52, f 53, f 54, f 55, f 56, f 57, f 58, f 59, f 60, f 61, f 62, f 63, f 64, f 65, f 66, f 67, f 68, f 69, f 70, f 71, f 72, f 73, f 74, f 75, f 76, f 77, f 78, f 79, f 80, f 81, f 82, f 83, f 84, f 85, f 86, f 87, f 88, f 89, f 90, f 91, f 92, f 93, f 94, f 95, f 96, f 97, f 98, f 99, f 100, f 101, f 102, f 103, f 104, f 105, f 106, f 107, f 108, f 109, f 110, f 111, f 112, f 113, f 114, f 115, f 116, f 117, f 118, f 119] := by kernel_rfl
attribute [local go_sem] bslice30
attribute [local go_sem ↓] execOp_bslice
set_option maxRecDepth 20000 in
set_option maxHeartbeats 8000000 in
theorem probe_any (B : Nat) (O : Own) (W : World) (gr o : Nat) (Cr : List Value) (tyr : TypeId) (i ar : Nat) (L : List Slot) (K : List IxD) (hS : RelSt B O W gr o tyr i ar L K Cr) (hV : RInv ar L K) (mk : Nat) (hmk : mk < 16) (key : Tup) (htyr : tyr ≠ 39) :
    Calls Try.prog 59 #[.pointer (some ⟨gr, o, none⟩), .int .i64 (mk : Int), .agg (arr i64v key).toArray] W (ProbePost W L mk key) := by
  have HS : Hid (RelSt B O W gr o tyr i ar L K Cr) := hS
  obtain ⟨sa, sn, sc, ia, iN, ic, hty, hR, hI⟩ := hS
  obtain ⟨r4, c0, c1, c2, c3⟩ := hR
  have hb : blk W gr = some Cr := blk_mk hty
  obtain ⟨hLn, hKn⟩ := hI.lens
  have hsn : sn ≤ 2048 := by have := hV.few; omega
  have hiN : iN ≤ 16 := by have := hV.few; omega
  have HV : Hid (RInv ar L K) := hV
  have HI : Hid (RelIn B O W i sa sn sc ia iN ic L K) := hI
  have HSL : Hid (Rw Slot.enc 6 W sa sn L) := (hI.slots.rw Slot.length_enc).1
  have HIX : Hid (Rw (IxD.enc L.length) 3 W ia iN K) := (hI.idx.rw (IxD.len _)).1
  have HLN : Hid (L.length = sn) := hLn
  have HKN : Hid (K.length = iN) := hKn
  have HBW : Hid (blk W gr = some Cr) := hb
  have l1 : o + 1 + 1 ≤ Cr.length := by omega
  have l3 : o + 3 + 1 ≤ Cr.length := by omega
  clear hI hV hLn hKn hty
  go_enter Try.func59, Try.ntmps59
  go_upto_region 1 with fail
  refine wp_world (fun W0 => blk W0 gr = some Cr ∧ blk W0 W.heap.size = some (arr i64v key) ∧ Hid (W.Extends W0)) ⟨?_, ?_, extends_alloc (ext_Ext (Ext.refl _)) _⟩ ?_
  · have := blk_lt hb; rw [blk_alloc, if_neg (by omega)]; exact hb
  · rw [blk_alloc, if_pos rfl]
  rintro W0 ⟨hb0, hb50, HE0⟩
  obtain ⟨b5, hb5⟩ : ∃ b5, b5 = W.heap.size := ⟨_, rfl⟩
  have HB5 : Hid (b5 = W.heap.size) := hb5
  rw [← hb5] at hb50 ⊢
  clear hb hb5
  go_wp2_with fail
  have hSt0 : RelSt B O W0 gr o tyr i ar L K Cr := by
    obtain ⟨sa, sn, sc, ia, iN, ic, hty, hR, hI⟩ := HS.out
    exact ⟨sa, sn, sc, ia, iN, ic, (HE0.out.block gr (blk_lt HBW.out)).trans hty, hR, hI.ext HE0.out⟩
  refine (pick_any B O W0 gr o Cr tyr i ar L K hSt0 HV.out mk hmk).mono ?_
  rintro e W1 ⟨⟨r, rfl, hr⟩, rfl⟩
  clear hSt0
  dsimp only
  rcases hr with rfl | ⟨j, k, rfl, hk, hsub, hmk0⟩
  · have HQ0 : Hid (∃ ts, Outs W1 W1 none 0 0 ts ∧ ts = probeF (L.take 0) mk key) := ⟨[], Outs.nil _ _ (ext_Ext (Ext.refl _)), rfl⟩
    go_wp2_with fail
    refine wp_loop_f 120 (prI W1 gr o b5 mk sn L key) (fun f _ => sn - (intOf (f 9)).toNat) rfl ⟨rfl, rfl, rfl, 0, none, 0, 0, by omega, rfl, rfl, HQ0⟩ ?_
    clear HQ0
    intro F V hrel
    obtain ⟨f0, f1, f5, n, a, m, c, hn, f9, f7, HQ⟩ := hrel
    have H9 : Hid (F 9 = .int .i64 (n : Nat)) := f9
    rw [frame120, f0, f1, f5, f9, f7]
    clear f0 f1 f5 f9 f7
    obtain ⟨ts, hout, hts⟩ := HQ.out
    have hE := hout.2.1
    have hb5V : blk V b5 = some (arr i64v key) := (hE.blk (blk_lt hb50)).trans hb50
    have hbV : blk V gr = some Cr := (hE.blk (blk_lt hb0)).trans hb0
    by_cases hin : n < sn
    · have hin' : (n : Int) < (sn : Int) := by omega
      obtain ⟨s, hs⟩ : ∃ s, L[n]? = some s := ⟨_, List.getElem?_eq_getElem (by rw [HLN.out]; exact hin)⟩
      obtain ⟨gs, Cs, rfl, hCs, hcs6, _, us, um, ul, _⟩ := slot_at HSL.out hs
      have hCsV : blk V gs = some Cs := ((HE0.out.trans hE).blk (blk_lt hCs)).trans hCs
      have hts1 : probeF (L.take (n + 1)) mk key = ts ++ (if s.live = true ∧ agreeF s.t key mk = true then [s.t] else []) := by rw [take_at hs, probeF_app, probeF_one, ← hts]
      have htsl : ts.length ≤ 2048 := by
        rw [hts]
        unfold probeF
        rw [List.length_map]
        refine Nat.le_trans (List.length_filter_le _ _) (Nat.le_trans (liveL_le _) ?_)
        rw [List.length_take]; omega
      have HOUT : Hid (Outs W1 V a m c ts) := hout
      have p0 : (0 : Int) ≤ (n : Int) := by omega
      have p2 : ((n : Int)).toNat = n := by omega
      have w4 : n * 6 + 4 ≤ Cs.length := by omega
      have w5 : n * 6 + 5 < Cs.length := by omega
      have w6 : n * 6 + 5 + 1 ≤ Cs.length := by omega
      obtain ⟨st, sm, slv⟩ := s
      dsimp only at us um ul hts1
      clear hE hout hts hs hCs HQ
      cases slv
      · rw [if_neg (by simp), List.append_nil] at hts1
        have HQ' : Hid (∃ ts, Outs W1 V.drew a m c ts ∧ ts = probeF (L.take (n + 1)) mk key) := ⟨ts, HOUT.out.ext (extends_drew (ext_Ext (Ext.refl _))), hts1.symm⟩
        clear hts1
        go_upto_region 7 with fail
        refine wp_region_held_drew (S := fun W' => blk W' gr = some Cr ∧ blk W' gs = some Cs ∧ blk W' b5 = some (arr i64v key)) (by kernel_rfl) ⟨hbV, hCsV, hb5V⟩ (fun hHeld => ?_)
        refine wpAnyH_take (i := 0) (oi := ⟨_, _, _, _, _, _⟩) (v := ?_) rfl (by kernel_rfl) (by kernel_rfl) (by kernel_rfl) (fun _ _ _ h => h) (Or.inl ⟨by rfl, ?_⟩) (by assumption) ?_
        rotate_left 1
        · intro W' hSw
          obtain ⟨hS1, hS2, hS3⟩ := hSw
          go_simp
          try with_reducible rfl
        try simp only [Act.put, List.setIfInBounds_toArray, List.set_cons_zero, List.set_cons_succ]
        refine wpAnyH_take (i := 1) (oi := ⟨_, _, _, _, _, _⟩) (v := ?_) rfl (by kernel_rfl) (by kernel_rfl) (by kernel_rfl) (fun _ _ _ h => h) (Or.inl ⟨by rfl, ?_⟩) (by assumption) ?_
        rotate_left 1
        · intro W' hSw
          obtain ⟨hS1, hS2, hS3⟩ := hSw
          go_simp
          try with_reducible rfl
        try simp only [Act.put, List.setIfInBounds_toArray, List.set_cons_zero, List.set_cons_succ]
        refine wpAnyH_take (i := 2) (oi := ⟨_, _, _, _, _, _⟩) (v := ?_) rfl (by kernel_rfl) (by kernel_rfl) (by kernel_rfl) (fun _ _ _ h => h) (Or.inl ⟨by rfl, ?_⟩) (by assumption) ?_
        rotate_left 1
        · intro W' hSw
          obtain ⟨hS1, hS2, hS3⟩ := hSw
          go_simp
          try with_reducible rfl
        try simp only [Act.put, List.setIfInBounds_toArray, List.set_cons_zero, List.set_cons_succ]
        refine wpAnyH_take (i := 3) (oi := ⟨_, _, _, _, _, _⟩) (v := ?_) rfl (by kernel_rfl) (by kernel_rfl) (by kernel_rfl) (fun _ _ _ h => h) (Or.inl ⟨by rfl, ?_⟩) (by assumption) ?_
        rotate_left 1
        · intro W' hSw
          obtain ⟨hS1, hS2, hS3⟩ := hSw
          go_simp
          try with_reducible rfl
        try simp only [Act.put, List.setIfInBounds_toArray, List.set_cons_zero, List.set_cons_succ]
        refine wpAnyH_take (i := 4) (oi := ⟨_, _, _, _, _, _⟩) (v := ?_) rfl (by kernel_rfl) (by kernel_rfl) (by kernel_rfl) (fun _ _ _ h => h) (Or.inl ⟨by rfl, ?_⟩) (by assumption) ?_
        rotate_left 1
        · intro W' hSw
          obtain ⟨hS1, hS2, hS3⟩ := hSw
          go_simp
          try with_reducible rfl
        try simp only [Act.put, List.setIfInBounds_toArray, List.set_cons_zero, List.set_cons_succ]
        refine wpAnyH_take (i := 5) (oi := ⟨_, _, _, _, _, _⟩) (v := ?_) rfl (by kernel_rfl) (by kernel_rfl) (by kernel_rfl) (fun _ _ _ h => h) (Or.inl ⟨by rfl, ?_⟩) (by assumption) ?_
        rotate_left 1
        · intro W' hSw
          obtain ⟨hS1, hS2, hS3⟩ := hSw
          go_simp
          try with_reducible rfl
        try simp only [Act.put, List.setIfInBounds_toArray, List.set_cons_zero, List.set_cons_succ]
        refine wpAnyH_take (i := 6) (oi := ⟨_, _, _, _, _, _⟩) (v := ?_) rfl (by kernel_rfl) (by kernel_rfl) (by kernel_rfl) (fun _ _ _ h => h) (Or.inl ⟨by rfl, ?_⟩) (by assumption) ?_
        rotate_left 1
        · intro W' hSw
          obtain ⟨hS1, hS2, hS3⟩ := hSw
          go_simp
          try with_reducible rfl
        try simp only [Act.put, List.setIfInBounds_toArray, List.set_cons_zero, List.set_cons_succ]
        refine wpAnyH_take (i := 7) (oi := ⟨_, _, _, _, _, _⟩) (v := ?_) rfl (by kernel_rfl) (by kernel_rfl) (by kernel_rfl) (fun _ _ _ h => h) (Or.inl ⟨by rfl, ?_⟩) (by assumption) ?_
        rotate_left 1
        · intro W' hSw
          obtain ⟨hS1, hS2, hS3⟩ := hSw
          go_simp
          try with_reducible rfl
        try simp only [Act.put, List.setIfInBounds_toArray, List.set_cons_zero, List.set_cons_succ]
        refine wpAnyH_take (i := 8) (oi := ⟨_, _, _, _, _, _⟩) (v := ?_) rfl (by kernel_rfl) (by kernel_rfl) (by kernel_rfl) (fun _ _ _ h => h) (Or.inl ⟨by rfl, ?_⟩) (by assumption) ?_
        rotate_left 1
        · intro W' hSw
          obtain ⟨hS1, hS2, hS3⟩ := hSw
          go_simp
          try with_reducible rfl
        try simp only [Act.put, List.setIfInBounds_toArray, List.set_cons_zero, List.set_cons_succ]
        refine wpAnyH_take (i := 9) (oi := ⟨_, _, _, _, _, _⟩) (v := undef) rfl (by kernel_rfl) (by kernel_rfl) (by kernel_rfl) (fun _ _ _ h => h) (Or.inr ⟨by rfl, rfl⟩) (by assumption) ?_
        try simp only [Act.put, List.setIfInBounds_toArray, List.set_cons_zero, List.set_cons_succ]
        refine wpAnyH_take (i := 10) (oi := ⟨_, _, _, _, _, _⟩) (v := undef) rfl (by kernel_rfl) (by kernel_rfl) (by kernel_rfl) (fun _ _ _ h => h) (Or.inr ⟨by rfl, rfl⟩) (by assumption) ?_
        try simp only [Act.put, List.setIfInBounds_toArray, List.set_cons_zero, List.set_cons_succ]
        refine wpAnyH_take (i := 11) (oi := ⟨_, _, _, _, _, _⟩) (v := undef) rfl (by kernel_rfl) (by kernel_rfl) (by kernel_rfl) (fun _ _ _ h => h) (Or.inr ⟨by rfl, rfl⟩) (by assumption) ?_
        try simp only [Act.put, List.setIfInBounds_toArray, List.set_cons_zero, List.set_cons_succ]
        refine wpAnyH_take (i := 12) (oi := ⟨_, _, _, _, _, _⟩) (v := undef) rfl (by kernel_rfl) (by kernel_rfl) (by kernel_rfl) (fun _ _ _ h => h) (Or.inr ⟨by rfl, rfl⟩) (by assumption) ?_
        try simp only [Act.put, List.setIfInBounds_toArray, List.set_cons_zero, List.set_cons_succ]
        refine wpAnyH_take (i := 13) (oi := ⟨_, _, _, _, _, _⟩) (v := undef) rfl (by kernel_rfl) (by kernel_rfl) (by kernel_rfl) (fun _ _ _ h => h) (Or.inr ⟨by rfl, rfl⟩) (by assumption) ?_
        try simp only [Act.put, List.setIfInBounds_toArray, List.set_cons_zero, List.set_cons_succ]
        refine wpAnyH_take (i := 14) (oi := ⟨_, _, _, _, _, _⟩) (v := undef) rfl (by kernel_rfl) (by kernel_rfl) (by kernel_rfl) (fun _ _ _ h => h) (Or.inr ⟨by rfl, rfl⟩) (by assumption) ?_
        try simp only [Act.put, List.setIfInBounds_toArray, List.set_cons_zero, List.set_cons_succ]
        refine wpAnyH_take (i := 15) (oi := ⟨_, _, _, _, _, _⟩) (v := undef) rfl (by kernel_rfl) (by kernel_rfl) (by kernel_rfl) (fun _ _ _ h => h) (Or.inr ⟨by rfl, rfl⟩) (by assumption) ?_
        try simp only [Act.put, List.setIfInBounds_toArray, List.set_cons_zero, List.set_cons_succ]
        refine wpAnyH_take (i := 16) (oi := ⟨_, _, _, _, _, _⟩) (v := undef) rfl (by kernel_rfl) (by kernel_rfl) (by kernel_rfl) (fun _ _ _ h => h) (Or.inr ⟨by rfl, rfl⟩) (by assumption) ?_
        try simp only [Act.put, List.setIfInBounds_toArray, List.set_cons_zero, List.set_cons_succ]
        refine wpAnyH_take (i := 17) (oi := ⟨_, _, _, _, _, _⟩) (v := undef) rfl (by kernel_rfl) (by kernel_rfl) (by kernel_rfl) (fun _ _ _ h => h) (Or.inr ⟨by rfl, rfl⟩) (by assumption) ?_
        try simp only [Act.put, List.setIfInBounds_toArray, List.set_cons_zero, List.set_cons_succ]
        refine wpAnyH_take (i := 18) (oi := ⟨_, _, _, _, _, _⟩) (v := undef) rfl (by kernel_rfl) (by kernel_rfl) (by kernel_rfl) (fun _ _ _ h => h) (Or.inr ⟨by rfl, rfl⟩) (by assumption) ?_
        try simp only [Act.put, List.setIfInBounds_toArray, List.set_cons_zero, List.set_cons_succ]
        refine wpAnyH_take (i := 19) (oi := ⟨_, _, _, _, _, _⟩) (v := undef) rfl (by kernel_rfl) (by kernel_rfl) (by kernel_rfl) (fun _ _ _ h => h) (Or.inr ⟨by rfl, rfl⟩) (by assumption) ?_
        try simp only [Act.put, List.setIfInBounds_toArray, List.set_cons_zero, List.set_cons_succ]
        refine wpAnyH_take (i := 20) (oi := ⟨_, _, _, _, _, _⟩) (v := ?_) rfl (by kernel_rfl) (by kernel_rfl) (by kernel_rfl) (fun _ _ _ h => h) (Or.inl ⟨by rfl, ?_⟩) (by assumption) ?_
        rotate_left 1
        · intro W' hSw
          obtain ⟨hS1, hS2, hS3⟩ := hSw
          go_simp
          try with_reducible rfl
        try simp only [Act.put, List.setIfInBounds_toArray, List.set_cons_zero, List.set_cons_succ]
        refine wpAnyH_done (by kernel_rfl) ?_ _
        go_wp2_with fail
        refine ⟨rfl, rfl, ⟨rfl, rfl, rfl, n + 1, a, m, c, by omega, ?_, rfl, HQ'⟩, ?_⟩
        · show Value.int .i64 _ = _
          go_num
        · show sn - (intOf (Value.int .i64 _)).toNat < sn - (intOf (F 9)).toNat
          rw [H9.out]
          simp [intOf]; omega
      · obtain ⟨ag, hag⟩ : ∃ ag, ag = agreeF st key mk := ⟨_, rfl⟩
        have HAG : Hid (ag = agreeF st key mk) := hag
        rw [← hag] at hts1
        clear hag
        go_upto_region 7 with fail
        refine wp_region_held_drew (S := fun W' => blk W' gr = some Cr ∧ blk W' gs = some Cs ∧ blk W' b5 = some (arr i64v key)) (by kernel_rfl) ⟨hbV, hCsV, hb5V⟩ (fun hHeld => ?_)
        refine wpAnyH_take (i := 0) (oi := ⟨_, _, _, _, _, _⟩) (v := ?_) rfl (by kernel_rfl) (by kernel_rfl) (by kernel_rfl) (fun _ _ _ h => h) (Or.inl ⟨by rfl, ?_⟩) (by assumption) ?_
        rotate_left 1
        · intro W' hSw
          obtain ⟨hS1, hS2, hS3⟩ := hSw
          go_simp
          try with_reducible rfl
        try simp only [Act.put, List.setIfInBounds_toArray, List.set_cons_zero, List.set_cons_succ]
        refine wpAnyH_take (i := 1) (oi := ⟨_, _, _, _, _, _⟩) (v := ?_) rfl (by kernel_rfl) (by kernel_rfl) (by kernel_rfl) (fun _ _ _ h => h) (Or.inl ⟨by rfl, ?_⟩) (by assumption) ?_
        rotate_left 1
        · intro W' hSw
          obtain ⟨hS1, hS2, hS3⟩ := hSw
          go_simp
          try with_reducible rfl
        try simp only [Act.put, List.setIfInBounds_toArray, List.set_cons_zero, List.set_cons_succ]
        refine wpAnyH_take (i := 2) (oi := ⟨_, _, _, _, _, _⟩) (v := ?_) rfl (by kernel_rfl) (by kernel_rfl) (by kernel_rfl) (fun _ _ _ h => h) (Or.inl ⟨by rfl, ?_⟩) (by assumption) ?_
        rotate_left 1
        · intro W' hSw
          obtain ⟨hS1, hS2, hS3⟩ := hSw
          go_simp
          try with_reducible rfl
        try simp only [Act.put, List.setIfInBounds_toArray, List.set_cons_zero, List.set_cons_succ]
        refine wpAnyH_take (i := 3) (oi := ⟨_, _, _, _, _, _⟩) (v := ?_) rfl (by kernel_rfl) (by kernel_rfl) (by kernel_rfl) (fun _ _ _ h => h) (Or.inl ⟨by rfl, ?_⟩) (by assumption) ?_
        rotate_left 1
        · intro W' hSw
          obtain ⟨hS1, hS2, hS3⟩ := hSw
          go_simp
          try with_reducible rfl
        try simp only [Act.put, List.setIfInBounds_toArray, List.set_cons_zero, List.set_cons_succ]
        refine wpAnyH_take (i := 4) (oi := ⟨_, _, _, _, _, _⟩) (v := ?_) rfl (by kernel_rfl) (by kernel_rfl) (by kernel_rfl) (fun _ _ _ h => h) (Or.inl ⟨by rfl, ?_⟩) (by assumption) ?_
        rotate_left 1
        · intro W' hSw
          obtain ⟨hS1, hS2, hS3⟩ := hSw
          go_simp
          try with_reducible rfl
        try simp only [Act.put, List.setIfInBounds_toArray, List.set_cons_zero, List.set_cons_succ]
        refine wpAnyH_take (i := 5) (oi := ⟨_, _, _, _, _, _⟩) (v := ?_) rfl (by kernel_rfl) (by kernel_rfl) (by kernel_rfl) (fun _ _ _ h => h) (Or.inl ⟨by rfl, ?_⟩) (by assumption) ?_
        rotate_left 1
        · intro W' hSw
          obtain ⟨hS1, hS2, hS3⟩ := hSw
          go_simp
          try with_reducible rfl
        try simp only [Act.put, List.setIfInBounds_toArray, List.set_cons_zero, List.set_cons_succ]
        refine wpAnyH_take (i := 6) (oi := ⟨_, _, _, _, _, _⟩) (v := ?_) rfl (by kernel_rfl) (by kernel_rfl) (by kernel_rfl) (fun _ _ _ h => h) (Or.inl ⟨by rfl, ?_⟩) (by assumption) ?_
        rotate_left 1
        · intro W' hSw
          obtain ⟨hS1, hS2, hS3⟩ := hSw
          go_simp
          try with_reducible rfl
        try simp only [Act.put, List.setIfInBounds_toArray, List.set_cons_zero, List.set_cons_succ]
        refine wpAnyH_take (i := 7) (oi := ⟨_, _, _, _, _, _⟩) (v := ?_) rfl (by kernel_rfl) (by kernel_rfl) (by kernel_rfl) (fun _ _ _ h => h) (Or.inl ⟨by rfl, ?_⟩) (by assumption) ?_
        rotate_left 1
        · intro W' hSw
          obtain ⟨hS1, hS2, hS3⟩ := hSw
          go_simp
          try with_reducible rfl
        try simp only [Act.put, List.setIfInBounds_toArray, List.set_cons_zero, List.set_cons_succ]
        refine wpAnyH_take (i := 8) (oi := ⟨_, _, _, _, _, _⟩) (v := ?_) rfl (by kernel_rfl) (by kernel_rfl) (by kernel_rfl) (fun _ _ _ h => h) (Or.inl ⟨by rfl, ?_⟩) (by assumption) ?_
        rotate_left 1
        · intro W' hSw
          obtain ⟨hS1, hS2, hS3⟩ := hSw
          go_simp
          try with_reducible rfl
        try simp only [Act.put, List.setIfInBounds_toArray, List.set_cons_zero, List.set_cons_succ]
        refine wpAnyH_take (i := 9) (oi := ⟨_, _, _, _, _, _⟩) (v := ?_) rfl (by kernel_rfl) (by kernel_rfl) (by kernel_rfl) (fun _ _ _ h => h) (Or.inl ⟨by rfl, ?_⟩) (by assumption) ?_
        rotate_left 1
        · intro W' hSw
          obtain ⟨hS1, hS2, hS3⟩ := hSw
          go_simp
          try with_reducible rfl
        try simp only [Act.put, List.setIfInBounds_toArray, List.set_cons_zero, List.set_cons_succ]
        refine wpAnyH_take (i := 10) (oi := ⟨_, _, _, _, _, _⟩) (v := ?_) rfl (by kernel_rfl) (by kernel_rfl) (by kernel_rfl) (fun _ _ _ h => h) (Or.inl ⟨by rfl, ?_⟩) (by assumption) ?_
        rotate_left 1
        · intro W' hSw
          obtain ⟨hS1, hS2, hS3⟩ := hSw
          go_simp
          try with_reducible rfl
        try simp only [Act.put, List.setIfInBounds_toArray, List.set_cons_zero, List.set_cons_succ]
        refine wpAnyH_take (i := 11) (oi := ⟨_, _, _, _, _, _⟩) (v := ?_) rfl (by kernel_rfl) (by kernel_rfl) (by kernel_rfl) (fun _ _ _ h => h) (Or.inl ⟨by rfl, ?_⟩) (by assumption) ?_
        rotate_left 1
        · intro W' hSw
          obtain ⟨hS1, hS2, hS3⟩ := hSw
          go_simp
          try with_reducible rfl
        try simp only [Act.put, List.setIfInBounds_toArray, List.set_cons_zero, List.set_cons_succ]
        refine wpAnyH_take (i := 12) (oi := ⟨_, _, _, _, _, _⟩) (v := ?_) rfl (by kernel_rfl) (by kernel_rfl) (by kernel_rfl) (fun _ _ _ h => h) (Or.inl ⟨by rfl, ?_⟩) (by assumption) ?_
        rotate_left 1
        · intro W' hSw
          obtain ⟨hS1, hS2, hS3⟩ := hSw
          go_simp
          try with_reducible rfl
        try simp only [Act.put, List.setIfInBounds_toArray, List.set_cons_zero, List.set_cons_succ]
        refine wpAnyH_take (i := 13) (oi := ⟨_, _, _, _, _, _⟩) (v := ?_) rfl (by kernel_rfl) (by kernel_rfl) (by kernel_rfl) (fun _ _ _ h => h) (Or.inl ⟨by rfl, ?_⟩) (by assumption) ?_
        rotate_left 1
        · intro W' hSw
          obtain ⟨hS1, hS2, hS3⟩ := hSw
          go_simp
          try with_reducible rfl
        try simp only [Act.put, List.setIfInBounds_toArray, List.set_cons_zero, List.set_cons_succ]
        refine wpAnyH_take (i := 14) (oi := ⟨_, _, _, _, _, _⟩) (v := ?_) rfl (by kernel_rfl) (by kernel_rfl) (by kernel_rfl) (fun _ _ _ h => h) (Or.inl ⟨by rfl, ?_⟩) (by assumption) ?_
        rotate_left 1
        · intro W' hSw
          obtain ⟨hS1, hS2, hS3⟩ := hSw
          go_simp
          try with_reducible rfl
        try simp only [Act.put, List.setIfInBounds_toArray, List.set_cons_zero, List.set_cons_succ]
        refine wpAnyH_take (i := 15) (oi := ⟨_, _, _, _, _, _⟩) (v := ?_) rfl (by kernel_rfl) (by kernel_rfl) (by kernel_rfl) (fun _ _ _ h => h) (Or.inl ⟨by rfl, ?_⟩) (by assumption) ?_
        rotate_left 1
        · intro W' hSw
          obtain ⟨hS1, hS2, hS3⟩ := hSw
          go_simp
          try with_reducible rfl
        try simp only [Act.put, List.setIfInBounds_toArray, List.set_cons_zero, List.set_cons_succ]
        refine wpAnyH_take (i := 16) (oi := ⟨_, _, _, _, _, _⟩) (v := ?_) rfl (by kernel_rfl) (by kernel_rfl) (by kernel_rfl) (fun _ _ _ h => h) (Or.inl ⟨by rfl, ?_⟩) (by assumption) ?_
        rotate_left 1
        · intro W' hSw
          obtain ⟨hS1, hS2, hS3⟩ := hSw
          go_simp
          try with_reducible rfl
        try simp only [Act.put, List.setIfInBounds_toArray, List.set_cons_zero, List.set_cons_succ]
        refine wpAnyH_take (i := 17) (oi := ⟨_, _, _, _, _, _⟩) (v := ?_) rfl (by kernel_rfl) (by kernel_rfl) (by kernel_rfl) (fun _ _ _ h => h) (Or.inl ⟨by rfl, ?_⟩) (by assumption) ?_
        rotate_left 1
        · intro W' hSw
          obtain ⟨hS1, hS2, hS3⟩ := hSw
          go_simp
          try with_reducible rfl
        try simp only [Act.put, List.setIfInBounds_toArray, List.set_cons_zero, List.set_cons_succ]
        refine wpAnyH_take (i := 18) (oi := ⟨_, _, _, _, _, _⟩) (v := ?_) rfl (by kernel_rfl) (by kernel_rfl) (by kernel_rfl) (fun _ _ _ h => h) (Or.inl ⟨by rfl, ?_⟩) (by assumption) ?_
        rotate_left 1
        · intro W' hSw
          obtain ⟨hS1, hS2, hS3⟩ := hSw
          go_simp
          try with_reducible rfl
        try simp only [Act.put, List.setIfInBounds_toArray, List.set_cons_zero, List.set_cons_succ]
        refine wpAnyH_ready (rs := [19]) (by kernel_rfl) (by simp) ?_
        refine AllReadyH.cons (o := ⟨_, _, _, _, _, _⟩) rfl (fun K' hK => ?_) AllReadyH.nil
        go_simp
        refine (agree_any V.drew st key mk hmk).mono ?_
        rintro e V1 ⟨rfl, hE1⟩
        rw [← HAG.out]
        have HE1 : Hid (V.Extends V1) := (extends_drew (ext_Ext (Ext.refl V))).trans hE1
        have hbV1 : blk V1 gr = some Cr := (HE1.out.blk (blk_lt hbV)).trans hbV
        have hCsV1 : blk V1 gs = some Cs := (HE1.out.blk (blk_lt hCsV)).trans hCsV
        have hb5V1 : blk V1 b5 = some (arr i64v key) := (HE1.out.blk (blk_lt hb5V)).trans hb5V
        clear hE1
        dsimp only
        refine hK.out _ _ ⟨hbV1, hCsV1, hb5V1⟩ (fun hHeld => ?_)
        clear hK K'
        try simp only [Act.put, List.setIfInBounds_toArray, List.set_cons_zero, List.set_cons_succ]
        refine wpAnyH_take (i := 20) (oi := ⟨_, _, _, _, _, _⟩) (v := ?_) rfl (by kernel_rfl) (by kernel_rfl) (by kernel_rfl) (fun _ _ _ h => h) (Or.inl ⟨by rfl, ?_⟩) (by assumption) ?_
        rotate_left 1
        · intro W' hSw
          obtain ⟨hS1, hS2, hS3⟩ := hSw
          go_simp
          try with_reducible rfl
        try simp only [Act.put, List.setIfInBounds_toArray, List.set_cons_zero, List.set_cons_succ]
        refine wpAnyH_done (by kernel_rfl) ?_ _
        cases ag
        · rw [if_neg (by simp), List.append_nil] at hts1
          have HQ' : Hid (∃ ts, Outs W1 V1 a m c ts ∧ ts = probeF (L.take (n + 1)) mk key) := ⟨ts, HOUT.out.ext HE1.out, hts1.symm⟩
          clear hts1
          go_wp2_with fail
          refine ⟨rfl, rfl, ⟨rfl, rfl, rfl, n + 1, a, m, c, by omega, ?_, rfl, HQ'⟩, ?_⟩
          · show Value.int .i64 _ = _
            go_num
          · show sn - (intOf (Value.int .i64 _)).toNat < sn - (intOf (F 9)).toNat
            rw [H9.out]
            simp [intOf]; omega
        · rw [if_pos (by simp)] at hts1
          obtain ⟨a2, c2', V2, hrun, hout2⟩ := (HOUT.out.ext HE1.out).app st (by omega)
          have HQ' : Hid (∃ ts, Outs W1 V2 a2 (m + 1) c2' ts ∧ ts = probeF (L.take (n + 1)) mk key) := ⟨_, hout2, hts1.symm⟩
          clear hts1 hout2
          go_wp2_with (at_builtin; refine wpList_append_run rfl _ _ 30 rfl _ _ _ _ rfl rfl hrun ?_)
          refine ⟨rfl, rfl, ⟨rfl, rfl, rfl, n + 1, a2, m + 1, c2', by omega, ?_, rfl, HQ'⟩, ?_⟩
          · show Value.int .i64 _ = _
            go_num
          · show sn - (intOf (Value.int .i64 _)).toNat < sn - (intOf (F 9)).toNat
            rw [H9.out]
            simp [intOf]; omega
    · obtain rfl : n = sn := by omega
      have hin' : ¬ ((n : Int) < (n : Int)) := by omega
      have HP : Hid (ProbePost W L mk key (.returned (.slice a m c)) V) := by
        rw [List.take_of_length_le (by rw [HLN.out]; exact Nat.le_refl _)] at hts
        exact ⟨a, m, c, ts, rfl, hout.base HE0.out, by rw [hts], fun _ => hts⟩
      clear HQ hout hts hE
      go_wp2_with fail
      go_ret
      exact HP.out
  · have hix := HI.out.ixs j k hk
    obtain ⟨gi, Ci, rfl, hCi, hci3, hjN, v0, v1, v2, _⟩ := ix_at HIX.out hk
    rw [HLN.out] at v2
    obtain ⟨km, size, ha, xa, xc⟩ := k
    obtain ⟨⟨hm, jj, hjj, hj3, hj20⟩, hheads, hnext⟩ := hix
    dsimp only at hm hjj hheads hnext v0 v1 v2 hsub
    obtain ⟨bs, hbs⟩ : ∃ bs, bs = bsOf L km size := ⟨_, rfl⟩
    rw [← hbs] at hheads hnext
    have HHD : Hid (Rw encK 1 W ha size (headsF bs size)) := (hheads.rw encK_len).1
    have HNX : Hid (Rw encK 1 W xa sn (nextF bs)) := by have := (hnext.rw encK_len).1; rw [HLN.out] at this; exact this
    have HBS : Hid (bs = bsOf L km size) := hbs
    have HBL : Hid (bs.length = sn) := by show _ = _; rw [hbs, bsOf_len]; exact HLN.out
    have HJ : Hid (size = 2 ^ jj) := hjj
    have hpos : 0 < size := by rw [hjj]; exact Nat.two_pow_pos jj
    have hsz20 : size ≤ 1048576 := by rw [hjj]; exact Nat.pow_le_pow_right (n := 2) (by decide) hj20
    obtain ⟨p, hp⟩ : ∃ p, p = bF key km size := ⟨_, rfl⟩
    have HP : Hid (p = bF key km size) := hp
    have hpl : p < size := by rw [hp]; exact Nat.mod_lt _ hpos
    obtain ⟨gh, Ch, rfl, hCh, hchl, _, uh⟩ := rw_cell (v := .int .i64 (lastB bs p : Nat)) HHD.out (headsF_at bs hpl) rfl
    have hCi0 : blk W1 gi = some Ci := (HE0.out.blk (blk_lt hCi)).trans hCi
    have hCh0 : blk W1 gh = some Ch := (HE0.out.blk (blk_lt hCh)).trans hCh
    have HSUB : Hid (SubM km mk = true ∧ mk ≠ 0) := ⟨hsub, hmk0⟩
    have HAGB : Hid (∀ (i : Nat) (s : Slot), L[i]? = some s → agreeF s.t key mk = true → bs[i]? = some p) := by
      intro i s hs ha
      have hagr := hsub
      have h1 : Agree s.t key km := SubM.agree hsub (of_decide_eq_true ha)
      have h2 : bF s.t km size = p := by
        rw [hp]
        unfold bF
        rw [hash_agree h1]
      rw [hbs]
      unfold bsOf
      rw [List.getElem?_map, hs, Option.map_some, h2]
    have q0 : (0 : Int) ≤ (p : Int) := by omega
    have q1 : (p : Int) < (size : Int) := by omega
    have q2 : ((p : Int)).toNat = p := by omega
    have jq0 : (0 : Int) ≤ (j : Int) := by omega
    have jq1 : (j : Int) < (iN : Int) := by omega
    have jq2 : ((j : Int)).toNat = j := by omega
    have jn : ¬ (j : Int) < 0 := by omega
    have d1 : j * 3 + 1 + 1 ≤ Ci.length := by omega
    have d2 : j * 3 + 2 + 1 ≤ Ci.length := by omega
    have HCI : Hid (blk W gi = some Ci) := hCi
    clear hheads hnext hbs hjj hp hk hsub hmk0 hCi hCh
    go_upto_region 11 with fail
    refine wp_region_held_drew (S := fun W' => blk W' gi = some Ci ∧ blk W' gh = some Ch ∧ blk W' b5 = some (arr i64v key)) (by kernel_rfl) ⟨hCi0, hCh0, hb50⟩ (fun hHeld => ?_)
    refine wpAnyH_take (i := 0) (oi := ⟨_, _, _, _, _, _⟩) (v := ?_) rfl (by kernel_rfl) (by kernel_rfl) (by kernel_rfl) (fun _ _ _ h => h) (Or.inl ⟨by rfl, ?_⟩) (by assumption) ?_
    rotate_left 1
    · intro W' hSw
      obtain ⟨hS1, hS2, hS3⟩ := hSw
      go_simp
      try with_reducible rfl
    try simp only [Act.put, List.setIfInBounds_toArray, List.set_cons_zero, List.set_cons_succ]
    refine wpAnyH_take (i := 1) (oi := ⟨_, _, _, _, _, _⟩) (v := ?_) rfl (by kernel_rfl) (by kernel_rfl) (by kernel_rfl) (fun _ _ _ h => h) (Or.inl ⟨by rfl, ?_⟩) (by assumption) ?_
    rotate_left 1
    · intro W' hSw
      obtain ⟨hS1, hS2, hS3⟩ := hSw
      go_simp
      try with_reducible rfl
    try simp only [Act.put, List.setIfInBounds_toArray, List.set_cons_zero, List.set_cons_succ]
    refine wpAnyH_take (i := 2) (oi := ⟨_, _, _, _, _, _⟩) (v := ?_) rfl (by kernel_rfl) (by kernel_rfl) (by kernel_rfl) (fun _ _ _ h => h) (Or.inl ⟨by rfl, ?_⟩) (by assumption) ?_
    rotate_left 1
    · intro W' hSw
      obtain ⟨hS1, hS2, hS3⟩ := hSw
      go_simp
      try with_reducible rfl
    try simp only [Act.put, List.setIfInBounds_toArray, List.set_cons_zero, List.set_cons_succ]
    refine wpAnyH_take (i := 3) (oi := ⟨_, _, _, _, _, _⟩) (v := ?_) rfl (by kernel_rfl) (by kernel_rfl) (by kernel_rfl) (fun _ _ _ h => h) (Or.inl ⟨by rfl, ?_⟩) (by assumption) ?_
    rotate_left 1
    · intro W' hSw
      obtain ⟨hS1, hS2, hS3⟩ := hSw
      go_simp
      try with_reducible rfl
    try simp only [Act.put, List.setIfInBounds_toArray, List.set_cons_zero, List.set_cons_succ]
    refine wpAnyH_take (i := 4) (oi := ⟨_, _, _, _, _, _⟩) (v := ?_) rfl (by kernel_rfl) (by kernel_rfl) (by kernel_rfl) (fun _ _ _ h => h) (Or.inl ⟨by rfl, ?_⟩) (by assumption) ?_
    rotate_left 1
    · intro W' hSw
      obtain ⟨hS1, hS2, hS3⟩ := hSw
      go_simp
      try with_reducible rfl
    try simp only [Act.put, List.setIfInBounds_toArray, List.set_cons_zero, List.set_cons_succ]
    refine wpAnyH_take (i := 5) (oi := ⟨_, _, _, _, _, _⟩) (v := ?_) rfl (by kernel_rfl) (by kernel_rfl) (by kernel_rfl) (fun _ _ _ h => h) (Or.inl ⟨by rfl, ?_⟩) (by assumption) ?_
    rotate_left 1
    · intro W' hSw
      obtain ⟨hS1, hS2, hS3⟩ := hSw
      go_simp
      try with_reducible rfl
    try simp only [Act.put, List.setIfInBounds_toArray, List.set_cons_zero, List.set_cons_succ]
    refine wpAnyH_ready (rs := [6]) (by kernel_rfl) (by simp) ?_
    refine AllReadyH.cons (o := ⟨_, _, _, _, _, _⟩) rfl (fun K' hK => ?_) AllReadyH.nil
    go_simp
    refine (bucket_any W1.drew gi (j * 3) Ci hCi0 km (some ⟨gh, 0, none⟩) size size v0 v1 hci3 key hm jj HJ.out hj20).mono ?_
    rintro e W2 ⟨rfl, hE1⟩
    rw [← HP.out]
    have hE2 : W1.Extends W2 := (extends_drew (ext_Ext (Ext.refl W1))).trans hE1
    have HEW2 : Hid (W.Extends W2) := HE0.out.trans hE2
    have hbr2 : blk W2 gr = some Cr := (hE2.blk (blk_lt hb0)).trans hb0
    have hCi2 : blk W2 gi = some Ci := (hE2.blk (blk_lt hCi0)).trans hCi0
    have hCh2 : blk W2 gh = some Ch := (hE2.blk (blk_lt hCh0)).trans hCh0
    have hb52 : blk W2 b5 = some (arr i64v key) := (hE2.blk (blk_lt hb50)).trans hb50
    clear hE1 hE2
    dsimp only
    refine hK.out _ _ ⟨hCi2, hCh2, hb52⟩ (fun hHeld => ?_)
    clear hK K'
    try simp only [Act.put, List.setIfInBounds_toArray, List.set_cons_zero, List.set_cons_succ]
    refine wpAnyH_take (i := 7) (oi := ⟨_, _, _, _, _, _⟩) (v := ?_) rfl (by kernel_rfl) (by kernel_rfl) (by kernel_rfl) (fun _ _ _ h => h) (Or.inl ⟨by rfl, ?_⟩) (by assumption) ?_
    rotate_left 1
    · intro W' hSw
      obtain ⟨hS1, hS2, hS3⟩ := hSw
      go_simp
      try with_reducible rfl
    try simp only [Act.put, List.setIfInBounds_toArray, List.set_cons_zero, List.set_cons_succ]
    refine wpAnyH_take (i := 8) (oi := ⟨_, _, _, _, _, _⟩) (v := ?_) rfl (by kernel_rfl) (by kernel_rfl) (by kernel_rfl) (fun _ _ _ h => h) (Or.inl ⟨by rfl, ?_⟩) (by assumption) ?_
    rotate_left 1
    · intro W' hSw
      obtain ⟨hS1, hS2, hS3⟩ := hSw
      go_simp
      try with_reducible rfl
    try simp only [Act.put, List.setIfInBounds_toArray, List.set_cons_zero, List.set_cons_succ]
    refine wpAnyH_take (i := 9) (oi := ⟨_, _, _, _, _, _⟩) (v := ?_) rfl (by kernel_rfl) (by kernel_rfl) (by kernel_rfl) (fun _ _ _ h => h) (Or.inl ⟨by rfl, ?_⟩) (by assumption) ?_
    rotate_left 1
    · intro W' hSw
      obtain ⟨hS1, hS2, hS3⟩ := hSw
      go_simp
      try with_reducible rfl
    try simp only [Act.put, List.setIfInBounds_toArray, List.set_cons_zero, List.set_cons_succ]
    refine wpAnyH_done (by kernel_rfl) ?_ _
    obtain ⟨n0, hn0⟩ : ∃ n0, n0 = lastB bs p := ⟨_, rfl⟩
    rw [← hn0] at uh ⊢
    have HN0 : Hid (n0 = lastB bs p) := hn0
    have hn0l : n0 ≤ sn := by rw [hn0, ← HBL.out]; exact lastB_le _ _
    clear hn0 uh
    go_wp2_with fail
    have HQ0 : Hid (∃ k ts, n0 = lastB (bs.take k) p ∧ k ≤ L.length ∧ Outs W2 W2 none 0 0 ts ∧ ts.Perm (probeF (L.drop k) mk key)) := ⟨L.length, [], by rw [HN0.out, List.take_of_length_le (by rw [HBL.out, HLN.out]; exact Nat.le_refl _)], Nat.le_refl _, Outs.nil _ _ (ext_Ext (Ext.refl _)), by rw [List.drop_length]; exact List.Perm.refl _⟩
    refine wp_loop_ix 120 (pcI W2 gr o b5 gi (j * 3) mk L key bs p) n0 rfl ⟨rfl, rfl, rfl, rfl, n0, none, 0, 0, rfl, rfl, by rw [HLN.out]; exact hn0l, rfl, HQ0⟩ ?_
    clear HQ0 HN0 hn0l hb0 hb50 hCi0 hCh0
    intro m9 F V hrel μ HM
    obtain ⟨f0, f1, f5, f10, n, a, m, c, f11, rfl, hnL, f7, HQ⟩ := hrel
    rw [frame120, f0, f1, f5, f10, f11, f7]
    clear f0 f1 f5 f10 f11 f7
    obtain ⟨k, ts, hnk, hkL, hout, hperm⟩ := HQ.out
    have hE := hout.2.1
    have hb5V : blk V b5 = some (arr i64v key) := (hE.blk (blk_lt hb52)).trans hb52
    have hbV : blk V gr = some Cr := (hE.blk (blk_lt hbr2)).trans hbr2
    have hCiV : blk V gi = some Ci := (hE.blk (blk_lt hCi2)).trans hCi2
    by_cases hz : m9 = 0
    · subst hz
      have HPP : Hid (ProbePost W L mk key (.returned (.slice a m c)) V) := by
        have h0 : probeF L mk key = probeF (L.drop k) mk key := by
          have := probeF_skip L mk key k 0 (Nat.zero_le _) (fun i s _ h2 h3 h4 => by
            have hb := HAGB.out i s h3 h4.2
            refine lastB_gt (bs.take k) p i (by omega) ?_
            rw [List.getElem?_take, if_pos h2]; exact hb)
          exact this
        exact ⟨a, m, c, ts, rfl, hout.base HEW2.out, by rw [h0]; exact hperm, fun h => absurd h HSUB.out.2⟩
      clear HQ hnk hperm hout hE
      go_wp2_with fail
      go_ret
      exact HPP.out
    obtain ⟨n1, rfl⟩ : ∃ n1, m9 = n1 + 1 := ⟨m9 - 1, by omega⟩
    have hb1 := lastB_at (bs.take k) p n1 hnk.symm
    rw [List.getElem?_take] at hb1
    have hn1k : n1 < k := by
      rcases Nat.lt_or_ge n1 k with h | h
      · exact h
      · rw [if_neg (by omega)] at hb1; simp at hb1
    rw [if_pos hn1k] at hb1
    obtain ⟨s, hs⟩ : ∃ s, L[n1]? = some s := ⟨_, List.getElem?_eq_getElem (by omega)⟩
    obtain ⟨gs, Cs, rfl, hCs, hcs6, hn1s, us, um, ul, _⟩ := slot_at HSL.out hs
    have hCsV : blk V gs = some Cs := ((HEW2.out.trans hE).blk (blk_lt hCs)).trans hCs
    have hnx : (nextF bs)[n1]? = some (lastB (bs.take n1) p) := by
      rw [nextF_at bs (by rw [HBL.out]; exact hn1s), List.getD_eq_getElem?_getD, hb1]; rfl
    obtain ⟨gx, Cx, rfl, hCx, hcx1, _, ux⟩ := rw_cell (v := .int .i64 (lastB (bs.take n1) p : Nat)) HNX.out hnx rfl
    have hCx2 : blk W2 gx = some Cx := (HEW2.out.blk (blk_lt hCx)).trans hCx
    have hCxV : blk V gx = some Cx := ((HEW2.out.trans hE).blk (blk_lt hCx)).trans hCx
    obtain ⟨n2, hn2⟩ : ∃ n2, n2 = lastB (bs.take n1) p := ⟨_, rfl⟩
    rw [← hn2] at ux
    have hn2l : n2 ≤ n1 := by rw [hn2]; exact Nat.le_trans (lastB_le _ _) (by rw [List.length_take]; omega)
    have htsl : ts.length ≤ 2048 := by
      rw [hperm.length_eq]
      unfold probeF
      rw [List.length_map]
      refine Nat.le_trans (List.length_filter_le _ _) (Nat.le_trans (liveL_le _) ?_)
      rw [List.length_drop, HLN.out]; omega
    have hstep : probeF (L.drop n1) mk key = (if s.live = true ∧ agreeF s.t key mk = true then [s.t] else []) ++ probeF (L.drop k) mk key := by
      have hn1L : n1 < L.length := by omega
      have e1 : L.drop n1 = [s] ++ L.drop (n1 + 1) := by
        rw [List.drop_eq_getElem_cons hn1L, (List.getElem?_eq_some_iff.1 hs).2]; rfl
      rw [e1, probeF_app, probeF_one]
      congr 1
      refine probeF_skip L mk key k (n1 + 1) (by omega) (fun i s' h1 h2 h3 h4 => ?_)
      have hb := HAGB.out i s' h3 h4.2
      refine lastB_gt (bs.take k) p i (by omega) ?_
      rw [List.getElem?_take, if_pos h2]; exact hb
    have HN2 : Hid (n2 = lastB (bs.take n1) p ∧ n1 ≤ L.length) := ⟨hn2, by omega⟩
    have HST : Hid (probeF (L.drop n1) mk key = (if s.live = true ∧ agreeF s.t key mk = true then [s.t] else []) ++ probeF (L.drop k) mk key) := hstep
    have HPM : Hid (ts.Perm (probeF (L.drop k) mk key)) := hperm
    have HOUT : Hid (Outs W2 V a m c ts) := hout
    have r0 : (0 : Int) ≤ (n1 : Int) := by omega
    have r1 : (n1 : Int) < (sn : Int) := by omega
    have r2 : ((n1 : Int)).toNat = n1 := by omega
    have r3' : IntKind.i64.wrap (n1 : Int) = (n1 : Int) := by rw [IntKind.wrap_i64]; omega
    have r4' : ¬ ((n1 + 1 : Nat) : Int) = 0 := by omega
    have r5 : (((n1 : Int) + 1) != 0) = true := by simp; omega
    have w4 : n1 * 6 + 4 ≤ Cs.length := by omega
    have w5 : n1 * 6 + 5 < Cs.length := by omega
    have w6 : n1 * 6 + 5 + 1 ≤ Cs.length := by omega
    obtain ⟨st, sm, slv⟩ := s
    dsimp only at us um ul HST
    clear hnk hs hCs hCx hn2 hnx hb1 HQ hstep hperm hout hE
    cases slv
    · have HQ' : Hid (∃ k ts, n2 = lastB (bs.take k) p ∧ k ≤ L.length ∧ Outs W2 V.drew a m c ts ∧ ts.Perm (probeF (L.drop k) mk key)) := by
        have h := HST.out
        rw [if_neg (by simp), List.nil_append] at h
        exact ⟨n1, ts, HN2.out.1, HN2.out.2, HOUT.out.ext (extends_drew (ext_Ext (Ext.refl _))), by rw [h]; exact HPM.out⟩
      have hbV' : blk V.drew gr = some Cr := hbV
      have hCiV' : blk V.drew gi = some Ci := hCiV
      have hCxV' : blk V.drew gx = some Cx := hCxV
      go_upto_region 14 with fail
      refine wp_region_held_drew (S := fun W' => blk W' gr = some Cr ∧ blk W' gs = some Cs ∧ blk W' b5 = some (arr i64v key)) (by kernel_rfl) ⟨hbV, hCsV, hb5V⟩ (fun hHeld => ?_)
      refine wpAnyH_take (i := 0) (oi := ⟨_, _, _, _, _, _⟩) (v := ?_) rfl (by kernel_rfl) (by kernel_rfl) (by kernel_rfl) (fun _ _ _ h => h) (Or.inl ⟨by rfl, ?_⟩) (by assumption) ?_
      rotate_left 1
      · intro W' hSw
        obtain ⟨hS1, hS2, hS3⟩ := hSw
        go_simp
        try with_reducible rfl
      try simp only [Act.put, List.setIfInBounds_toArray, List.set_cons_zero, List.set_cons_succ]
      refine wpAnyH_take (i := 1) (oi := ⟨_, _, _, _, _, _⟩) (v := ?_) rfl (by kernel_rfl) (by kernel_rfl) (by kernel_rfl) (fun _ _ _ h => h) (Or.inl ⟨by rfl, ?_⟩) (by assumption) ?_
      rotate_left 1
      · intro W' hSw
        obtain ⟨hS1, hS2, hS3⟩ := hSw
        go_simp
        try with_reducible rfl
      try simp only [Act.put, List.setIfInBounds_toArray, List.set_cons_zero, List.set_cons_succ]
      refine wpAnyH_take (i := 2) (oi := ⟨_, _, _, _, _, _⟩) (v := ?_) rfl (by kernel_rfl) (by kernel_rfl) (by kernel_rfl) (fun _ _ _ h => h) (Or.inl ⟨by rfl, ?_⟩) (by assumption) ?_
      rotate_left 1
      · intro W' hSw
        obtain ⟨hS1, hS2, hS3⟩ := hSw
        go_simp
        try with_reducible rfl
      try simp only [Act.put, List.setIfInBounds_toArray, List.set_cons_zero, List.set_cons_succ]
      refine wpAnyH_take (i := 3) (oi := ⟨_, _, _, _, _, _⟩) (v := ?_) rfl (by kernel_rfl) (by kernel_rfl) (by kernel_rfl) (fun _ _ _ h => h) (Or.inl ⟨by rfl, ?_⟩) (by assumption) ?_
      rotate_left 1
      · intro W' hSw
        obtain ⟨hS1, hS2, hS3⟩ := hSw
        go_simp
        try with_reducible rfl
      try simp only [Act.put, List.setIfInBounds_toArray, List.set_cons_zero, List.set_cons_succ]
      refine wpAnyH_take (i := 4) (oi := ⟨_, _, _, _, _, _⟩) (v := ?_) rfl (by kernel_rfl) (by kernel_rfl) (by kernel_rfl) (fun _ _ _ h => h) (Or.inl ⟨by rfl, ?_⟩) (by assumption) ?_
      rotate_left 1
      · intro W' hSw
        obtain ⟨hS1, hS2, hS3⟩ := hSw
        go_simp
        try with_reducible rfl
      try simp only [Act.put, List.setIfInBounds_toArray, List.set_cons_zero, List.set_cons_succ]
      refine wpAnyH_take (i := 5) (oi := ⟨_, _, _, _, _, _⟩) (v := ?_) rfl (by kernel_rfl) (by kernel_rfl) (by kernel_rfl) (fun _ _ _ h => h) (Or.inl ⟨by rfl, ?_⟩) (by assumption) ?_
      rotate_left 1
      · intro W' hSw
        obtain ⟨hS1, hS2, hS3⟩ := hSw
        go_simp
        try with_reducible rfl
      try simp only [Act.put, List.setIfInBounds_toArray, List.set_cons_zero, List.set_cons_succ]
      refine wpAnyH_take (i := 6) (oi := ⟨_, _, _, _, _, _⟩) (v := ?_) rfl (by kernel_rfl) (by kernel_rfl) (by kernel_rfl) (fun _ _ _ h => h) (Or.inl ⟨by rfl, ?_⟩) (by assumption) ?_
      rotate_left 1
      · intro W' hSw
        obtain ⟨hS1, hS2, hS3⟩ := hSw
        go_simp
        try with_reducible rfl
      try simp only [Act.put, List.setIfInBounds_toArray, List.set_cons_zero, List.set_cons_succ]
      refine wpAnyH_take (i := 7) (oi := ⟨_, _, _, _, _, _⟩) (v := ?_) rfl (by kernel_rfl) (by kernel_rfl) (by kernel_rfl) (fun _ _ _ h => h) (Or.inl ⟨by rfl, ?_⟩) (by assumption) ?_
      rotate_left 1
      · intro W' hSw
        obtain ⟨hS1, hS2, hS3⟩ := hSw
        go_simp
        try with_reducible rfl
      try simp only [Act.put, List.setIfInBounds_toArray, List.set_cons_zero, List.set_cons_succ]
      refine wpAnyH_take (i := 8) (oi := ⟨_, _, _, _, _, _⟩) (v := ?_) rfl (by kernel_rfl) (by kernel_rfl) (by kernel_rfl) (fun _ _ _ h => h) (Or.inl ⟨by rfl, ?_⟩) (by assumption) ?_
      rotate_left 1
      · intro W' hSw
        obtain ⟨hS1, hS2, hS3⟩ := hSw
        go_simp
        try with_reducible rfl
      try simp only [Act.put, List.setIfInBounds_toArray, List.set_cons_zero, List.set_cons_succ]
      refine wpAnyH_take (i := 9) (oi := ⟨_, _, _, _, _, _⟩) (v := ?_) rfl (by kernel_rfl) (by kernel_rfl) (by kernel_rfl) (fun _ _ _ h => h) (Or.inl ⟨by rfl, ?_⟩) (by assumption) ?_
      rotate_left 1
      · intro W' hSw
        obtain ⟨hS1, hS2, hS3⟩ := hSw
        go_simp
        try with_reducible rfl
      try simp only [Act.put, List.setIfInBounds_toArray, List.set_cons_zero, List.set_cons_succ]
      refine wpAnyH_take (i := 10) (oi := ⟨_, _, _, _, _, _⟩) (v := undef) rfl (by kernel_rfl) (by kernel_rfl) (by kernel_rfl) (fun _ _ _ h => h) (Or.inr ⟨by rfl, rfl⟩) (by assumption) ?_
      try simp only [Act.put, List.setIfInBounds_toArray, List.set_cons_zero, List.set_cons_succ]
      refine wpAnyH_take (i := 11) (oi := ⟨_, _, _, _, _, _⟩) (v := undef) rfl (by kernel_rfl) (by kernel_rfl) (by kernel_rfl) (fun _ _ _ h => h) (Or.inr ⟨by rfl, rfl⟩) (by assumption) ?_
      try simp only [Act.put, List.setIfInBounds_toArray, List.set_cons_zero, List.set_cons_succ]
      refine wpAnyH_take (i := 12) (oi := ⟨_, _, _, _, _, _⟩) (v := undef) rfl (by kernel_rfl) (by kernel_rfl) (by kernel_rfl) (fun _ _ _ h => h) (Or.inr ⟨by rfl, rfl⟩) (by assumption) ?_
      try simp only [Act.put, List.setIfInBounds_toArray, List.set_cons_zero, List.set_cons_succ]
      refine wpAnyH_take (i := 13) (oi := ⟨_, _, _, _, _, _⟩) (v := undef) rfl (by kernel_rfl) (by kernel_rfl) (by kernel_rfl) (fun _ _ _ h => h) (Or.inr ⟨by rfl, rfl⟩) (by assumption) ?_
      try simp only [Act.put, List.setIfInBounds_toArray, List.set_cons_zero, List.set_cons_succ]
      refine wpAnyH_take (i := 14) (oi := ⟨_, _, _, _, _, _⟩) (v := undef) rfl (by kernel_rfl) (by kernel_rfl) (by kernel_rfl) (fun _ _ _ h => h) (Or.inr ⟨by rfl, rfl⟩) (by assumption) ?_
      try simp only [Act.put, List.setIfInBounds_toArray, List.set_cons_zero, List.set_cons_succ]
      refine wpAnyH_take (i := 15) (oi := ⟨_, _, _, _, _, _⟩) (v := undef) rfl (by kernel_rfl) (by kernel_rfl) (by kernel_rfl) (fun _ _ _ h => h) (Or.inr ⟨by rfl, rfl⟩) (by assumption) ?_
      try simp only [Act.put, List.setIfInBounds_toArray, List.set_cons_zero, List.set_cons_succ]
      refine wpAnyH_take (i := 16) (oi := ⟨_, _, _, _, _, _⟩) (v := undef) rfl (by kernel_rfl) (by kernel_rfl) (by kernel_rfl) (fun _ _ _ h => h) (Or.inr ⟨by rfl, rfl⟩) (by assumption) ?_
      try simp only [Act.put, List.setIfInBounds_toArray, List.set_cons_zero, List.set_cons_succ]
      refine wpAnyH_take (i := 17) (oi := ⟨_, _, _, _, _, _⟩) (v := undef) rfl (by kernel_rfl) (by kernel_rfl) (by kernel_rfl) (fun _ _ _ h => h) (Or.inr ⟨by rfl, rfl⟩) (by assumption) ?_
      try simp only [Act.put, List.setIfInBounds_toArray, List.set_cons_zero, List.set_cons_succ]
      refine wpAnyH_take (i := 18) (oi := ⟨_, _, _, _, _, _⟩) (v := undef) rfl (by kernel_rfl) (by kernel_rfl) (by kernel_rfl) (fun _ _ _ h => h) (Or.inr ⟨by rfl, rfl⟩) (by assumption) ?_
      try simp only [Act.put, List.setIfInBounds_toArray, List.set_cons_zero, List.set_cons_succ]
      refine wpAnyH_take (i := 19) (oi := ⟨_, _, _, _, _, _⟩) (v := undef) rfl (by kernel_rfl) (by kernel_rfl) (by kernel_rfl) (fun _ _ _ h => h) (Or.inr ⟨by rfl, rfl⟩) (by assumption) ?_
      try simp only [Act.put, List.setIfInBounds_toArray, List.set_cons_zero, List.set_cons_succ]
      refine wpAnyH_take (i := 20) (oi := ⟨_, _, _, _, _, _⟩) (v := undef) rfl (by kernel_rfl) (by kernel_rfl) (by kernel_rfl) (fun _ _ _ h => h) (Or.inr ⟨by rfl, rfl⟩) (by assumption) ?_
      try simp only [Act.put, List.setIfInBounds_toArray, List.set_cons_zero, List.set_cons_succ]
      refine wpAnyH_take (i := 21) (oi := ⟨_, _, _, _, _, _⟩) (v := undef) rfl (by kernel_rfl) (by kernel_rfl) (by kernel_rfl) (fun _ _ _ h => h) (Or.inr ⟨by rfl, rfl⟩) (by assumption) ?_
      try simp only [Act.put, List.setIfInBounds_toArray, List.set_cons_zero, List.set_cons_succ]
      refine wpAnyH_take (i := 22) (oi := ⟨_, _, _, _, _, _⟩) (v := ?_) rfl (by kernel_rfl) (by kernel_rfl) (by kernel_rfl) (fun _ _ _ h => h) (Or.inl ⟨by rfl, ?_⟩) (by assumption) ?_
      rotate_left 1
      · intro W' hSw
        obtain ⟨hS1, hS2, hS3⟩ := hSw
        go_simp
        try with_reducible rfl
      try simp only [Act.put, List.setIfInBounds_toArray, List.set_cons_zero, List.set_cons_succ]
      refine wpAnyH_done (by kernel_rfl) ?_ _
      go_wp2_with fail
      have key9 : ∀ f' w', pcI W2 gr o b5 gi (j * 3) mk L key bs p n2 f' w' → (∃ n, pcI W2 gr o b5 gi (j * 3) mk L key bs p n f' w') ∧ μ f' w' < μ F V := fun f' w' h => ⟨⟨_, h⟩, HM.out _ _ _ h (by omega)⟩
      refine ⟨rfl, rfl, (key9 _ _ ?hI0).1, (key9 _ _ ?hI0).2⟩
      exact ⟨rfl, rfl, rfl, rfl, n2, a, m, c, rfl, rfl, by omega, rfl, HQ'⟩
    · obtain ⟨ag, hag⟩ : ∃ ag, ag = agreeF st key mk := ⟨_, rfl⟩
      have HAG : Hid (ag = agreeF st key mk) := hag
      rw [← hag] at HST
      clear hag
      go_upto_region 14 with fail
      refine wp_region_held_drew (S := fun W' => blk W' gr = some Cr ∧ blk W' gs = some Cs ∧ blk W' b5 = some (arr i64v key)) (by kernel_rfl) ⟨hbV, hCsV, hb5V⟩ (fun hHeld => ?_)
      refine wpAnyH_take (i := 0) (oi := ⟨_, _, _, _, _, _⟩) (v := ?_) rfl (by kernel_rfl) (by kernel_rfl) (by kernel_rfl) (fun _ _ _ h => h) (Or.inl ⟨by rfl, ?_⟩) (by assumption) ?_
      rotate_left 1
      · intro W' hSw
        obtain ⟨hS1, hS2, hS3⟩ := hSw
        go_simp
        try with_reducible rfl
      try simp only [Act.put, List.setIfInBounds_toArray, List.set_cons_zero, List.set_cons_succ]
      refine wpAnyH_take (i := 1) (oi := ⟨_, _, _, _, _, _⟩) (v := ?_) rfl (by kernel_rfl) (by kernel_rfl) (by kernel_rfl) (fun _ _ _ h => h) (Or.inl ⟨by rfl, ?_⟩) (by assumption) ?_
      rotate_left 1
      · intro W' hSw
        obtain ⟨hS1, hS2, hS3⟩ := hSw
        go_simp
        try with_reducible rfl
      try simp only [Act.put, List.setIfInBounds_toArray, List.set_cons_zero, List.set_cons_succ]
      refine wpAnyH_take (i := 2) (oi := ⟨_, _, _, _, _, _⟩) (v := ?_) rfl (by kernel_rfl) (by kernel_rfl) (by kernel_rfl) (fun _ _ _ h => h) (Or.inl ⟨by rfl, ?_⟩) (by assumption) ?_
      rotate_left 1
      · intro W' hSw
        obtain ⟨hS1, hS2, hS3⟩ := hSw
        go_simp
        try with_reducible rfl
      try simp only [Act.put, List.setIfInBounds_toArray, List.set_cons_zero, List.set_cons_succ]
      refine wpAnyH_take (i := 3) (oi := ⟨_, _, _, _, _, _⟩) (v := ?_) rfl (by kernel_rfl) (by kernel_rfl) (by kernel_rfl) (fun _ _ _ h => h) (Or.inl ⟨by rfl, ?_⟩) (by assumption) ?_
      rotate_left 1
      · intro W' hSw
        obtain ⟨hS1, hS2, hS3⟩ := hSw
        go_simp
        try with_reducible rfl
      try simp only [Act.put, List.setIfInBounds_toArray, List.set_cons_zero, List.set_cons_succ]
      refine wpAnyH_take (i := 4) (oi := ⟨_, _, _, _, _, _⟩) (v := ?_) rfl (by kernel_rfl) (by kernel_rfl) (by kernel_rfl) (fun _ _ _ h => h) (Or.inl ⟨by rfl, ?_⟩) (by assumption) ?_
      rotate_left 1
      · intro W' hSw
        obtain ⟨hS1, hS2, hS3⟩ := hSw
        go_simp
        try with_reducible rfl
      try simp only [Act.put, List.setIfInBounds_toArray, List.set_cons_zero, List.set_cons_succ]
      refine wpAnyH_take (i := 5) (oi := ⟨_, _, _, _, _, _⟩) (v := ?_) rfl (by kernel_rfl) (by kernel_rfl) (by kernel_rfl) (fun _ _ _ h => h) (Or.inl ⟨by rfl, ?_⟩) (by assumption) ?_
      rotate_left 1
      · intro W' hSw
        obtain ⟨hS1, hS2, hS3⟩ := hSw
        go_simp
        try with_reducible rfl
      try simp only [Act.put, List.setIfInBounds_toArray, List.set_cons_zero, List.set_cons_succ]
      refine wpAnyH_take (i := 6) (oi := ⟨_, _, _, _, _, _⟩) (v := ?_) rfl (by kernel_rfl) (by kernel_rfl) (by kernel_rfl) (fun _ _ _ h => h) (Or.inl ⟨by rfl, ?_⟩) (by assumption) ?_
      rotate_left 1
      · intro W' hSw
        obtain ⟨hS1, hS2, hS3⟩ := hSw
        go_simp
        try with_reducible rfl
      try simp only [Act.put, List.setIfInBounds_toArray, List.set_cons_zero, List.set_cons_succ]
      refine wpAnyH_take (i := 7) (oi := ⟨_, _, _, _, _, _⟩) (v := ?_) rfl (by kernel_rfl) (by kernel_rfl) (by kernel_rfl) (fun _ _ _ h => h) (Or.inl ⟨by rfl, ?_⟩) (by assumption) ?_
      rotate_left 1
      · intro W' hSw
        obtain ⟨hS1, hS2, hS3⟩ := hSw
        go_simp
        try with_reducible rfl
      try simp only [Act.put, List.setIfInBounds_toArray, List.set_cons_zero, List.set_cons_succ]
      refine wpAnyH_take (i := 8) (oi := ⟨_, _, _, _, _, _⟩) (v := ?_) rfl (by kernel_rfl) (by kernel_rfl) (by kernel_rfl) (fun _ _ _ h => h) (Or.inl ⟨by rfl, ?_⟩) (by assumption) ?_
      rotate_left 1
      · intro W' hSw
        obtain ⟨hS1, hS2, hS3⟩ := hSw
        go_simp
        try with_reducible rfl
      try simp only [Act.put, List.setIfInBounds_toArray, List.set_cons_zero, List.set_cons_succ]
      refine wpAnyH_take (i := 9) (oi := ⟨_, _, _, _, _, _⟩) (v := ?_) rfl (by kernel_rfl) (by kernel_rfl) (by kernel_rfl) (fun _ _ _ h => h) (Or.inl ⟨by rfl, ?_⟩) (by assumption) ?_
      rotate_left 1
      · intro W' hSw
        obtain ⟨hS1, hS2, hS3⟩ := hSw
        go_simp
        try with_reducible rfl
      try simp only [Act.put, List.setIfInBounds_toArray, List.set_cons_zero, List.set_cons_succ]
      refine wpAnyH_take (i := 10) (oi := ⟨_, _, _, _, _, _⟩) (v := ?_) rfl (by kernel_rfl) (by kernel_rfl) (by kernel_rfl) (fun _ _ _ h => h) (Or.inl ⟨by rfl, ?_⟩) (by assumption) ?_
      rotate_left 1
      · intro W' hSw
        obtain ⟨hS1, hS2, hS3⟩ := hSw
        go_simp
        try with_reducible rfl
      try simp only [Act.put, List.setIfInBounds_toArray, List.set_cons_zero, List.set_cons_succ]
      refine wpAnyH_take (i := 11) (oi := ⟨_, _, _, _, _, _⟩) (v := ?_) rfl (by kernel_rfl) (by kernel_rfl) (by kernel_rfl) (fun _ _ _ h => h) (Or.inl ⟨by rfl, ?_⟩) (by assumption) ?_
      rotate_left 1
      · intro W' hSw
        obtain ⟨hS1, hS2, hS3⟩ := hSw
        go_simp
        try with_reducible rfl
      try simp only [Act.put, List.setIfInBounds_toArray, List.set_cons_zero, List.set_cons_succ]
      refine wpAnyH_take (i := 12) (oi := ⟨_, _, _, _, _, _⟩) (v := ?_) rfl (by kernel_rfl) (by kernel_rfl) (by kernel_rfl) (fun _ _ _ h => h) (Or.inl ⟨by rfl, ?_⟩) (by assumption) ?_
      rotate_left 1
      · intro W' hSw
        obtain ⟨hS1, hS2, hS3⟩ := hSw
        go_simp
        try with_reducible rfl
      try simp only [Act.put, List.setIfInBounds_toArray, List.set_cons_zero, List.set_cons_succ]
      refine wpAnyH_take (i := 13) (oi := ⟨_, _, _, _, _, _⟩) (v := ?_) rfl (by kernel_rfl) (by kernel_rfl) (by kernel_rfl) (fun _ _ _ h => h) (Or.inl ⟨by rfl, ?_⟩) (by assumption) ?_
      rotate_left 1
      · intro W' hSw
        obtain ⟨hS1, hS2, hS3⟩ := hSw
        go_simp
        try with_reducible rfl
      try simp only [Act.put, List.setIfInBounds_toArray, List.set_cons_zero, List.set_cons_succ]
      refine wpAnyH_take (i := 14) (oi := ⟨_, _, _, _, _, _⟩) (v := ?_) rfl (by kernel_rfl) (by kernel_rfl) (by kernel_rfl) (fun _ _ _ h => h) (Or.inl ⟨by rfl, ?_⟩) (by assumption) ?_
      rotate_left 1
      · intro W' hSw
        obtain ⟨hS1, hS2, hS3⟩ := hSw
        go_simp
        try with_reducible rfl
      try simp only [Act.put, List.setIfInBounds_toArray, List.set_cons_zero, List.set_cons_succ]
      refine wpAnyH_take (i := 15) (oi := ⟨_, _, _, _, _, _⟩) (v := ?_) rfl (by kernel_rfl) (by kernel_rfl) (by kernel_rfl) (fun _ _ _ h => h) (Or.inl ⟨by rfl, ?_⟩) (by assumption) ?_
      rotate_left 1
      · intro W' hSw
        obtain ⟨hS1, hS2, hS3⟩ := hSw
        go_simp
        try with_reducible rfl
      try simp only [Act.put, List.setIfInBounds_toArray, List.set_cons_zero, List.set_cons_succ]
      refine wpAnyH_take (i := 16) (oi := ⟨_, _, _, _, _, _⟩) (v := ?_) rfl (by kernel_rfl) (by kernel_rfl) (by kernel_rfl) (fun _ _ _ h => h) (Or.inl ⟨by rfl, ?_⟩) (by assumption) ?_
      rotate_left 1
      · intro W' hSw
        obtain ⟨hS1, hS2, hS3⟩ := hSw
        go_simp
        try with_reducible rfl
      try simp only [Act.put, List.setIfInBounds_toArray, List.set_cons_zero, List.set_cons_succ]
      refine wpAnyH_take (i := 17) (oi := ⟨_, _, _, _, _, _⟩) (v := ?_) rfl (by kernel_rfl) (by kernel_rfl) (by kernel_rfl) (fun _ _ _ h => h) (Or.inl ⟨by rfl, ?_⟩) (by assumption) ?_
      rotate_left 1
      · intro W' hSw
        obtain ⟨hS1, hS2, hS3⟩ := hSw
        go_simp
        try with_reducible rfl
      try simp only [Act.put, List.setIfInBounds_toArray, List.set_cons_zero, List.set_cons_succ]
      refine wpAnyH_take (i := 18) (oi := ⟨_, _, _, _, _, _⟩) (v := ?_) rfl (by kernel_rfl) (by kernel_rfl) (by kernel_rfl) (fun _ _ _ h => h) (Or.inl ⟨by rfl, ?_⟩) (by assumption) ?_
      rotate_left 1
      · intro W' hSw
        obtain ⟨hS1, hS2, hS3⟩ := hSw
        go_simp
        try with_reducible rfl
      try simp only [Act.put, List.setIfInBounds_toArray, List.set_cons_zero, List.set_cons_succ]
      refine wpAnyH_take (i := 19) (oi := ⟨_, _, _, _, _, _⟩) (v := ?_) rfl (by kernel_rfl) (by kernel_rfl) (by kernel_rfl) (fun _ _ _ h => h) (Or.inl ⟨by rfl, ?_⟩) (by assumption) ?_
      rotate_left 1
      · intro W' hSw
        obtain ⟨hS1, hS2, hS3⟩ := hSw
        go_simp
        try with_reducible rfl
      try simp only [Act.put, List.setIfInBounds_toArray, List.set_cons_zero, List.set_cons_succ]
      refine wpAnyH_take (i := 20) (oi := ⟨_, _, _, _, _, _⟩) (v := ?_) rfl (by kernel_rfl) (by kernel_rfl) (by kernel_rfl) (fun _ _ _ h => h) (Or.inl ⟨by rfl, ?_⟩) (by assumption) ?_
      rotate_left 1
      · intro W' hSw
        obtain ⟨hS1, hS2, hS3⟩ := hSw
        go_simp
        try with_reducible rfl
      try simp only [Act.put, List.setIfInBounds_toArray, List.set_cons_zero, List.set_cons_succ]
      refine wpAnyH_ready (rs := [21]) (by kernel_rfl) (by simp) ?_
      refine AllReadyH.cons (o := ⟨_, _, _, _, _, _⟩) rfl (fun K' hK => ?_) AllReadyH.nil
      go_simp
      refine (agree_any V.drew st key mk hmk).mono ?_
      rintro e V1 ⟨rfl, hE1⟩
      rw [← HAG.out]
      have HE1 : Hid (V.Extends V1) := (extends_drew (ext_Ext (Ext.refl V))).trans hE1
      have hbV1 : blk V1 gr = some Cr := (HE1.out.blk (blk_lt hbV)).trans hbV
      have hCsV1 : blk V1 gs = some Cs := (HE1.out.blk (blk_lt hCsV)).trans hCsV
      have hb5V1 : blk V1 b5 = some (arr i64v key) := (HE1.out.blk (blk_lt hb5V)).trans hb5V
      clear hE1
      dsimp only
      refine hK.out _ _ ⟨hbV1, hCsV1, hb5V1⟩ (fun hHeld => ?_)
      clear hK K'
      try simp only [Act.put, List.setIfInBounds_toArray, List.set_cons_zero, List.set_cons_succ]
      refine wpAnyH_take (i := 22) (oi := ⟨_, _, _, _, _, _⟩) (v := ?_) rfl (by kernel_rfl) (by kernel_rfl) (by kernel_rfl) (fun _ _ _ h => h) (Or.inl ⟨by rfl, ?_⟩) (by assumption) ?_
      rotate_left 1
      · intro W' hSw
        obtain ⟨hS1, hS2, hS3⟩ := hSw
        go_simp
        try with_reducible rfl
      try simp only [Act.put, List.setIfInBounds_toArray, List.set_cons_zero, List.set_cons_succ]
      refine wpAnyH_done (by kernel_rfl) ?_ _
      have hCiV1 : blk V1 gi = some Ci := (HE1.out.blk (blk_lt hCiV)).trans hCiV
      have hCxV1 : blk V1 gx = some Cx := (HE1.out.blk (blk_lt hCxV)).trans hCxV
      cases ag
      · have HQ' : Hid (∃ k ts, n2 = lastB (bs.take k) p ∧ k ≤ L.length ∧ Outs W2 V1 a m c ts ∧ ts.Perm (probeF (L.drop k) mk key)) := by
          have h := HST.out
          rw [if_neg (by simp), List.nil_append] at h
          exact ⟨n1, ts, HN2.out.1, HN2.out.2, HOUT.out.ext HE1.out, by rw [h]; exact HPM.out⟩
        go_wp2_with fail
        have key9 : ∀ f' w', pcI W2 gr o b5 gi (j * 3) mk L key bs p n2 f' w' → (∃ n, pcI W2 gr o b5 gi (j * 3) mk L key bs p n f' w') ∧ μ f' w' < μ F V := fun f' w' h => ⟨⟨_, h⟩, HM.out _ _ _ h (by omega)⟩
        refine ⟨rfl, rfl, (key9 _ _ ?hI1).1, (key9 _ _ ?hI1).2⟩
        exact ⟨rfl, rfl, rfl, rfl, n2, a, m, c, rfl, rfl, by omega, rfl, HQ'⟩
      · obtain ⟨a2, c2', V2, hrun, hout2⟩ := (HOUT.out.ext HE1.out).app st (by omega)
        have HQ' : Hid (∃ k ts, n2 = lastB (bs.take k) p ∧ k ≤ L.length ∧ Outs W2 V2 a2 (m + 1) c2' ts ∧ ts.Perm (probeF (L.drop k) mk key)) := by
          have h := HST.out
          rw [if_pos (by simp)] at h
          refine ⟨n1, _, HN2.out.1, HN2.out.2, hout2, ?_⟩
          rw [h]
          exact List.perm_append_comm.trans (List.Perm.append_left _ HPM.out)
        have hE2 := hout2.2.1
        have hCiV2 : blk V2 gi = some Ci := (hE2.blk (blk_lt hCi2)).trans hCi2
        have hCxV2 : blk V2 gx = some Cx := (hE2.blk (blk_lt hCx2)).trans hCx2
        clear hout2 hE2
        go_wp2_with (at_builtin; refine wpList_append_run rfl _ _ 30 rfl _ _ _ _ rfl rfl hrun ?_)
        have key9 : ∀ f' w', pcI W2 gr o b5 gi (j * 3) mk L key bs p n2 f' w' → (∃ n, pcI W2 gr o b5 gi (j * 3) mk L key bs p n f' w') ∧ μ f' w' < μ F V := fun f' w' h => ⟨⟨_, h⟩, HM.out _ _ _ h (by omega)⟩
        refine ⟨rfl, rfl, (key9 _ _ ?hI2).1, (key9 _ _ ?hI2).2⟩
        exact ⟨rfl, rfl, rfl, rfl, n2, a2, m + 1, c2', rfl, rfl, by omega, rfl, HQ'⟩
end Go.Proofs.Qxb6500789a
