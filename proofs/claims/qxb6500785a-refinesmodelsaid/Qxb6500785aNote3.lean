import Derived.Test.Qxb6500785aLogA3
import Derived.Test.Qxb6500785aKnown
import Derived.Deep.RegionHeld
import Derived.Deep.CutRange
import Derived.Laws.ResultCell
import Derived.Laws.Rows
set_option linter.unusedSimpArgs false
set_option linter.unusedVariables false
namespace Go.Proofs.Qxb6500785a
open Go.RowKit Go.Blk
attribute [local go_sem ↓] execOp_load execOp_store execOp_alloc
attribute [local go_sem] Try.ld24 Try.st24 Try.ld5 Try.st5 Try.ld3 Try.st3 Try.ld27 Try.st27 Try.ld32 Try.st32 Try.ld33 Try.st33 Try.ld4 Try.st4 Try.ld41 Try.st41 Try.ld40 Try.st40 Try.ld42 Try.st42 Try.ld47 Try.st47 Try.ld48 Try.st48 Try.ld57 Try.st57 Try.ld58 Try.st58 Try.ld2 Try.st2 Try.ld9 Try.st9 Try.ld12 Try.st12 Try.ld21 Try.st21 Try.ld22 Try.st22 Try.ld46 Try.st46 Try.ld83 Try.st83 Try.ld95 Try.st95 Try.ld99 Try.st99 Try.ld106 Try.st106 Try.ld108 Try.st108 Try.ld134 Try.st134 Try.ld25 Try.st25 Try.ld26 Try.st26 Try.ld34 Try.st34 Try.ld31 Try.st31 Try.ld30 Try.st30 Try.ld74 Try.st74 Try.ld96 Try.st96 Try.ld101 Try.st101 Try.ld115 Try.st115 Try.ld116 Try.st116 Try.ld120 Try.st120 Try.ld121 Try.st121 Try.ld122 Try.st122 Try.ld29 Try.st29 Try.ld36 Try.st36 Try.ld38 Try.st38 Try.ld44 Try.st44 Try.ld50 Try.st50 Try.ld60 Try.st60 Try.ld110 Try.st110 Try.al25 Try.al26 Try.al34 Try.al31 Try.al30 Try.al74 Try.al96 Try.al101 Try.al115 Try.al116 Try.al120 Try.al121 Try.al122 Try.al29 Try.al36 Try.al38 Try.al44 Try.al50 Try.al60 Try.al110
attribute [local go_sem] Hasher.length_enc Hasher.ok_enc Hasher.all_get Hasher.all_set Hasher.state_get Hasher.state_set Hasher.block_get Hasher.block_set Hasher.fill_get Hasher.fill_set Hasher.length_get Hasher.length_set GLog.length_enc GLog.ok_enc GLog.all_get GLog.all_set GLog.entries_get GLog.entries_set GLog.shelves_get GLog.shelves_set GLog.first_get GLog.first_set GLog.second_get GLog.second_set GLog.found_get GLog.found_set Player.length_enc Player.ok_enc Player.all_get Player.all_set Player.hand_get Player.hand_set Player.aside_get Player.aside_set Player.prev_get Player.prev_set Player.last_get Player.last_set Player.log_get Player.log_set Player.hand_state_get Player.hand_state_set Player.hand_block_get Player.hand_block_set Player.hand_fill_get Player.hand_fill_set Player.hand_length_get Player.hand_length_set Player.aside_state_get Player.aside_state_set Player.aside_block_get Player.aside_block_set Player.aside_fill_get Player.aside_fill_set Player.aside_length_get Player.aside_length_set Player.log_entries_get Player.log_entries_set Player.log_shelves_get Player.log_shelves_set Player.log_first_get Player.log_first_set Player.log_second_get Player.log_second_set Player.log_found_get Player.log_found_set GOp.length_enc GOp.ok_enc GOp.all_get GOp.all_set GOp.kind_get GOp.kind_set GOp.data_get GOp.data_set GOp.cut_get GOp.cut_set GOp.n_get GOp.n_set GOp.b_get GOp.b_set GOp.v_get GOp.v_set GOp.dom_get GOp.dom_set GOp.sum_get GOp.sum_set Answer.length_enc Answer.ok_enc Answer.all_get Answer.all_set Answer.code_get Answer.code_set Answer.sum_get Answer.sum_set Answer.len_get Answer.len_set Answer.mark_get Answer.mark_set Answer.noted_get Answer.noted_set Answer.collided_get Answer.collided_set GState.length_enc GState.ok_enc GState.all_get GState.all_set GState.hand_get GState.hand_set GState.aside_get GState.aside_set GState.prev_get GState.prev_set GState.last_get GState.last_set GState.inputs_get GState.inputs_set GState.sums_get GState.sums_set GState.collided_get GState.collided_set GState.older_get GState.older_set GState.younger_get GState.younger_set Noted.length_enc Noted.ok_enc Noted.all_get Noted.all_set Noted.input_get Noted.input_set Noted.sum_get Noted.sum_set
attribute [local go_sem] size_put size_ext blk_put free_put blk_alloc free_alloc blk_drew free_drew blk_ext free_ext lookOr_some putOr_some segAt_some cellAt_some storeIn_some put_put put_alloc_new length_arr ok_arr_u8 ok_arr_u32 ok_arr_u64 ok_arr_i64 ok_arr_sl cellsV_agg cellsV_int cellsV_bool cellsV_string cellsV_pointer cellsV_slice cellsV_sl ok_int ok_bool ok_string ok_pointer ok_slice ok_sl toList_arr seg_arr set_arr nth_splice nth_splice0 seg_splice seg_splice0 splice_splice splice_splice0 length_splice_if
attribute [local go_sem] w32_and w32_or w32_xor w32_add w32_or8 w32_not w8_and w8_or w8_xor w32_shr2 w32_shl2 w32_shr3 w32_shl3 w32_shr6 w32_shl6 w32_shr7 w32_shl7 w32_shr8 w32_shl8 w32_shr10 w32_shl10 w32_shr11 w32_shl11 w32_shr13 w32_shl13 w32_shr14 w32_shl14 w32_shr15 w32_shl15 w32_shr16 w32_shl16 w32_shr17 w32_shl17 w32_shr18 w32_shl18 w32_shr19 w32_shl19 w32_shr21 w32_shl21 w32_shr22 w32_shl22 w32_shr24 w32_shl24 w32_shr25 w32_shl25 w32_shr26 w32_shl26 w32_shr30 w32_shl30 w8_shl24 w8_shl16 w8_shl8 v32_add v32_byte w32_byte0 v8_shl24 v8_shl16 v8_shl8 v32_shr2 v32_shl2 v32_shr3 v32_shl3 v32_shr6 v32_shl6 v32_shr7 v32_shl7 v32_shr8 v32_shl8 v32_shr10 v32_shl10 v32_shr11 v32_shl11 v32_shr13 v32_shl13 v32_shr14 v32_shl14 v32_shr15 v32_shl15 v32_shr16 v32_shl16 v32_shr17 v32_shl17 v32_shr18 v32_shl18 v32_shr19 v32_shl19 v32_shr21 v32_shl21 v32_shr22 v32_shl22 v32_shr24 v32_shl24 v32_shr25 v32_shl25 v32_shr26 v32_shl26 v32_shr30 v32_shl30
attribute [local go_sem ↓] execOp_build
attribute [local go_sem] run_build_kv run_build_iv nth_arr_u32 put_arr_u32 nth_arr_u8 put_arr_u8 v32_of8 blk_drewN free_drewN put_drewN put_drew blk_raw free_raw
attribute [local go_sem ↓] execOp_slice execOp_copy
attribute [local go_sem] Try.sl40lo Try.sl40hi Try.sl26lo Try.sl26hi Try.sl26 Try.sl96lo Try.sl96hi Try.sl96 Try.sl31lo Try.sl31 Try.sl120 Try.sl121 Try.sl121lo Try.sl121hi Try.cp40 copyOr_some copyIn_some srcB_drew srcB_drewN srcB_raw length_bv one_bv
attribute [local go_sem] Hasher.length_zero
attribute [local go_sem] Try.cpv copyOrV_some
attribute [local go_sem ↓] execOp_index execOp_convert execOp_box execOp_convert9
attribute [local go_sem] index_hex box_run conv_bytes eq31
attribute [local go_sem] build31
attribute [local go_sem ↓] execOp_make execOp_bslice
attribute [local go_sem] make40 build110 bslice32 bslice33
set_option maxRecDepth 100000 in
theorem frame111 (f : Nat → Value) : frameN 111 f = #[f 0, f 1, f 2, f 3, f 4, f 5, f 6, f 7, f 8, f 9, f 10, f 11, f 12, f 13, f 14, f 15, f 16, f 17, f 18, f 19, f 20, f 21, f 22, f 23, f 24, f 25, f 26, f 27, f 28, f 29, f 30, f 31, f 32, f 33, f 34, f 35, f 36, f 37, f 38, f 39, f 40, f 41, f 42, f 43, f 44, f 45, f 46, f 47, f 48, f 49, f 50, f 51, f 52, f 53, f 54, f 55, f 56, f 57, f 58, f 59, f 60, f 61, f 62, f 63, f 64, f 65, f 66, f 67, f 68, f 69, f 70, f 71, f 72, f 73, f 74, f 75, f 76, f 77, f 78, f 79, f 80, f 81, f 82, f 83, f 84, f 85, f 86, f 87, f 88, f 89, f 90, f 91, f 92, f 93, f 94, f 95, f 96, f 97, f 98, f 99, f 100, f 101, f 102, f 103, f 104, f 105, f 106, f 107, f 108, f 109, f 110] := by kernel_rfl
def lgI (W1 : World) (b o bx s : Nat) (a : Option Addr) (len cap : Nat) (sh : Sl) (m N : Nat) (es : List Ent) (sx : List Nat) (x : Ent) (f : Nat → Value) (W : World) : Prop :=
  f 0 = .pointer (some ⟨b, o, none⟩) ∧ f 1 = .slice a len cap ∧ f 5 = .pointer (some ⟨bx, 0, none⟩) ∧ f 7 = .int .i64 (s : Nat) ∧ f 21 = Sl.val sh ∧ f 22 = .int .i64 (m : Nat) ∧
  ∃ (c : Nat) (r : Int), c ≤ m ∧ f 23 = .int .i64 (c : Nat) ∧ f 8 = .int .i64 r ∧ -1 ≤ r ∧ r < (N : Int) ∧ Hid (Scan es sx x c r) ∧ ∃ n, W = W1.drewN n
def NoteOut (B b o : Nat) (C : List Value) (l : GLog) (ns : List Noted) (W W' : World) (l' : GLog) (ns' : List Noted) (ix' : Nat → List Nat) (A' : ALog) (X : Nat → Prop) : Prop :=
  blk W' b = some (splice C o l'.enc) ∧ free W' b = true ∧ LogOk B W' l' ns' ix' A' X ∧ ns'.length ≤ ns.length + 1 ∧ W.heap.size ≤ W'.heap.size ∧ W'.os = W.os ∧ W'.tape = W.tape ∧ W'.output = W.output ∧
  ∀ k, k < W.heap.size → k ≠ b → (Sl.val l.entries).ownBlock ≠ some k → (∀ s (h : s < 64), (Sl.val l.shelves[s]).ownBlock ≠ some k) → W'.heap[k]? = W.heap[k]?
theorem noteA_seen {A : ALog} {x : Ent} (h : x ∈ A.es) : noteA A x = (A, 2) := by unfold noteA; rw [if_pos h]
theorem noteA_fresh {A : ALog} {x : Ent} (h : x ∉ A.es) (hf : A.es.findIdx? (fun e => decide (e.2 = x.2)) = none) : noteA A x = (⟨A.es ++ [x], A.fd⟩, 1) := by unfold noteA; rw [if_neg h, hf]
theorem noteA_old {A : ALog} {x : Ent} {r : Nat} (h : x ∉ A.es) (hf : A.es.findIdx? (fun e => decide (e.2 = x.2)) = some r) (hq : A.fd.isSome = true) : noteA A x = (⟨A.es ++ [x], A.fd⟩, 3) := by
  obtain ⟨q, hq⟩ := Option.isSome_iff_exists.1 hq
  unfold noteA; rw [if_neg h, hf, hq]
theorem noteA_met {A : ALog} {x : Ent} {r : Nat} (h : x ∉ A.es) (hf : A.es.findIdx? (fun e => decide (e.2 = x.2)) = some r) (hq : A.fd = none) : noteA A x = (⟨A.es ++ [x], some (r, A.es.length)⟩, 3) := by
  unfold noteA; rw [if_neg h, hf, hq]
set_option maxRecDepth 20000 in
set_option maxHeartbeats 6000000 in
theorem note_any (w : World) (B b o : Nat) (C : List Value) (l : GLog) (ns : List Noted) (ix : Nat → List Nat) (A : ALog) (X : Nat → Prop) (hXw : ∀ k, X k → k < w.heap.size) (av : Nat) (a : Option Addr) (len cap : Nat) (xs : List UInt8) (d : Vector UInt8 32)
    (hb : blk w b = some (splice C o l.enc)) (hC : o + 68 ≤ C.length) (hf : free w b = true) (hL : LogOk B w l ns ix A X) (hX : BytesAt av w a len cap xs) (hlen : len ≤ 70000) (hns : ns.length ≤ 70000) (hB : B ≤ w.heap.size) (hbB : b < B) :
    Calls Try.prog 53 #[.pointer (some ⟨b, o, none⟩), .slice a len cap, .agg (arr u8v d).toArray] w fun e w' => ∃ (l' : GLog) (ns' : List Noted) (ix' : Nat → List Nat), e = .returned (.int .i64 (noteA A (xs, d)).2) ∧ NoteOut B b o C l ns w w' l' ns' ix' (noteA A (xs, d)).1 X := by
  have HXW : Hid (∀ k, X k → k < w.heap.size) := hXw
  clear hXw
  obtain ⟨A', k', hA⟩ : ∃ A' k', noteA A (xs, d) = (A', k') := ⟨_, _, rfl⟩
  rw [hA]
  have HA : Hid (noteA A (xs, d) = (A', k')) := hA
  clear hA
  dsimp only
  have hlt := blk_lt hb
  have HL : Hid (LogOk B w l ns ix A X) := hL
  have HX : Hid (BytesAt av w a len cap xs) := hX
  clear hL hX
  obtain ⟨s, hs0⟩ : ∃ s, s = d[0].toNat % 64 := ⟨_, rfl⟩
  have hs : s < 64 := by omega
  have e0 : Int.tmod (w8 d[0]) 64 = (s : Int) := by
    unfold w8; rw [Int.tmod_eq_emod_of_nonneg (by omega)]; omega
  have e1 : IntKind.i64.wrap (w8 d[0]) = w8 d[0] := by unfold w8; rw [wraps_i64 _ (by omega) (by have := w8_lt d[0]; omega)]
  have q0 : (0 : Int) ≤ (s : Int) := by omega
  have q1 : (s : Int) < 64 := by omega
  have q2 : ((s : Int)).toNat = s := by omega
  have HS0 : Hid (s = d[0].toNat % 64) := hs0
  clear hs0
  obtain ⟨sh, hsh⟩ : ∃ sh, sh = l.shelves[s] := ⟨_, rfl⟩
  have hget : nth (splice C o l.enc) (o + 1 + s) = some (.slice sh.a sh.len sh.cap) := by
    rw [Nat.add_assoc, nth_splice (by rw [GLog.length_enc]; omega) (by rw [GLog.length_enc]; omega), GLog.shelves_at l s hs, hsh]
    rfl
  have hsv : Sl.val sh = .slice sh.a sh.len sh.cap := rfl
  have HSH : Hid (sh = l.shelves[s]) := hsh
  have hshl : sh.len = (ix s).length := by
    obtain ⟨_, h2 | ⟨g, cap, cur, e1, _⟩⟩ := HL.out.rowS s hs
    · rw [← hsh] at h2
      have := h2.1
      simp only [Sl.val] at this
      injection this with _ q _
      rw [q, h2.2]
    · rw [← hsh] at e1
      simp only [Sl.val] at e1
      injection e1 with _ q _
  have HSL : Hid (sh.len = (ix s).length) := hshl
  have hms0 : (ix s).length ≤ 9223372036854775807 := by
    obtain ⟨_, h2 | ⟨g, cap, cur, e1, e2, e3, e4, e5, _⟩⟩ := HL.out.rowS s hs
    · omega
    · simp only [maxLen] at e5; omega
  clear hsh hshl
  have nb : ¬ b = w.heap.size := by omega
  go_enter Try.func53, Try.ntmps53
  go_wp2_with fail
  refine wp_loop_f 111 (lgI (w.alloc (.cells (arr u8v d).toArray 31)) b o w.heap.size s a len cap sh (ix s).length ns.length A.es (ix s) (xs, d)) (fun f _ => (ix s).length - (intOf (f 23)).toNat) rfl ?_ ?_
  · exact ⟨rfl, rfl, rfl, rfl, rfl, by rw [← HSL.out]; rfl, 0, -1, by omega, rfl, rfl, by omega, by omega, Scan.zero _ _ _, 0, rfl⟩
  obtain ⟨W1, hW1⟩ : ∃ W1, W1 = w.alloc (.cells (arr u8v d).toArray 31) := ⟨_, rfl⟩
  obtain ⟨bx, hbx⟩ : ∃ bx, bx = w.heap.size := ⟨_, rfl⟩
  have hE1 : Ext w W1 := by rw [hW1]; exact (Ext.refl w).alloc _
  have hb1 : blk W1 b = some (splice C o l.enc) := (hE1.blk hlt).trans hb
  have hf1 : free W1 b = true := (hE1.free hlt).trans hf
  have hx1 : blk W1 bx = some (arr u8v d) := by rw [hW1, hbx, blk_alloc, if_pos rfl]
  have HL1 : Hid (LogOk B W1 l ns ix A X) := HL.out.grow (ext_Ext hE1)
  have HX1 : Hid (BytesAt W1.heap.size W1 a len cap xs) := HX.out.at_new (fun b hb => hE1.blk hb) hE1.size
  have HE1 : Hid (Ext w W1) := hE1
  have hbbx : b < bx := by omega
  have hBx : B ≤ bx := by omega
  have hwbx : w.heap.size ≤ bx := by omega
  have hbx1 : bx < W1.heap.size := blk_lt hx1
  rw [← hW1, ← hbx]
  clear hW1 hE1 hb hf HX hbx
  obtain ⟨m, hm⟩ : ∃ m, m = (ix s).length := ⟨_, rfl⟩
  obtain ⟨N, hN⟩ : ∃ N, N = ns.length := ⟨_, rfl⟩
  have HM : Hid (m = (ix s).length) := hm
  have HN : Hid (N = ns.length) := hN
  have hNs : N ≤ 70000 := by omega
  have hml : sh.len = m := by rw [HSL.out, hm]
  have hms : m ≤ 9223372036854775807 := by omega
  rw [← hm, ← hN]
  clear hm hN hms0
  intro F W hrel
  obtain ⟨h0, h1, h5, h7, h21, h22, c, r, hc, h23, h8, hr0, hr1, HSC, n, rfl⟩ := hrel
  have H23 : Hid (F 23 = .int .i64 (c : Nat)) := h23
  rw [frame111, h0, h1, h5, h7, h21, h22, h23, h8]
  clear h0 h1 h5 h7 h21 h22 h23 h8
  by_cases hcm : c < m
  · obtain ⟨gs, ks, Cs, hsl, hCs, hns0⟩ := HL1.out.shelf hs (show c < (ix s).length by have := HM.out; omega)
    obtain ⟨j, hj0⟩ : ∃ j, j = (ix s)[c]'(by have := HM.out; omega) := ⟨_, rfl⟩
    rw [← hj0] at hns0
    have HJ : Hid ((ix s)[c]? = some j) := List.getElem?_eq_some_iff.2 ⟨by have := HM.out; omega, hj0.symm⟩
    have hjN : j < ns.length := by rw [hj0]; exact HL1.out.rng s hs _ (List.getElem_mem _)
    have hsh1 : sh = ⟨some ⟨gs, 0, none⟩, m, ks⟩ := by rw [HSH.out, hsl, ← HM.out]
    obtain ⟨ge, ce, Ce, hen, hCe, hle, hin, hsu⟩ := HL1.out.entry hjN
    rw [← HN.out] at hen
    have hjN' : j < N := by have := HN.out; omega
    obtain ⟨y, hy⟩ : ∃ y, y = ns[j] := ⟨_, rfl⟩
    rw [← hy] at hin hsu
    obtain ⟨⟨ys, yd⟩, hye, hyl, hyo, hys⟩ := HL1.out.ent hjN
    rw [← hy] at hyo hys
    have HYE : Hid (A.es[j]? = some (ys, yd)) := hye
    have HYS : Hid (y.sum = yd) := hys
    simp only at hyl hyo
    clear hye hys
    obtain ⟨ya, yc, hyv, hyx⟩ := own_bytes hyo (by omega)
    have HYX : Hid (BytesAt W1.heap.size W1 ya ys.length yc ys) := hyx
    obtain ⟨yl, hyl0⟩ : ∃ yl, yl = ys.length := ⟨_, rfl⟩
    rw [← hyl0] at hyv HYX
    have hj33 : j * 33 + 33 ≤ Ce.length := by
      have : (j + 1) * 33 ≤ ns.length * 33 := Nat.mul_le_mul_right _ hjN
      omega
    have hen' : nth l.enc 0 = some (.slice (some ⟨ge, 0, none⟩) N ce) := by
      have := GLog.entries_get l
      rw [hen] at this
      exact this
    subst hsh1
    clear hsl hj0 hle hyl hyo hyx hyl0 hen hy
    have r0 : (0 : Int) ≤ (c : Int) := by omega
    have r1 : (c : Int) < (m : Int) := by omega
    have r2 : ((c : Int)).toNat = c := by omega
    have r3 : (0 : Int) ≤ (j : Int) := by omega
    have r4 : (j : Int) < (N : Int) := by omega
    have r5 : ((j : Int)).toNat = j := by omega
    have r6 : j * 33 + 1 + 32 ≤ Ce.length := by omega
    simp only [Sl.val]
    by_cases hsd : y.sum = d
    · go_wp2_with fail
      go_quiet (fail)
      go_wp2_with fail
      refine (sameBytes_any (W1.drewN (n + nq)) _ _ ya a yl len yc cap ys xs (show BytesAt _ (W1.drewN (n + nq)) _ _ _ _ from HYX.out) (show BytesAt _ (W1.drewN (n + nq)) _ _ _ _ from HX1.out)).mono ?_
      rintro e W2 ⟨rfl, n2, rfl⟩
      by_cases hyx2 : ys = xs
      · rw [decide_eq_true hyx2]
        have hq : (A', k') = (A, 2) := HA.out.symm.trans (noteA_seen (by
          have h1 := HYE.out
          rw [← HYS.out, hsd, hyx2] at h1
          exact List.mem_of_getElem? h1))
        injection hq with hq1 hq2
        subst hq1 hq2
        go_wp2_with fail
        go_ret
        refine ⟨l, ns, ix, rfl, ?_⟩
        have hxx : w.Extends (W1.drewN (n + nq + n2)) := extends_drewN (ext_Ext HE1.out) _
        exact ⟨hb1, hf1, HL.out.grow hxx, by omega, hxx.size, hxx.os, hxx.tape, hxx.output, fun k hk _ _ _ => hxx.block k hk⟩
      · rw [decide_eq_false hyx2]
        by_cases hrr : r < 0
        · go_wp2_with fail
          refine ⟨rfl, rfl, ?_, ?_⟩
          · refine ⟨rfl, rfl, rfl, rfl, rfl, rfl, c + 1, (j : Int), by omega, ?_, rfl, by omega, by omega, HSC.out.rival hrr HJ.out HYE.out hyx2 (by rw [← HYS.out]; exact hsd), n + nq + n2, rfl⟩
            show Value.int .i64 _ = _
            go_num
          · show m - (intOf (Value.int .i64 _)).toNat < m - (intOf (F 23)).toNat
            rw [H23.out]
            simp [intOf]; omega
        · go_wp2_with fail
          refine ⟨rfl, rfl, ?_, ?_⟩
          · refine ⟨rfl, rfl, rfl, rfl, rfl, rfl, c + 1, r, by omega, ?_, rfl, hr0, hr1, HSC.out.more (by omega) HJ.out HYE.out hyx2, n + nq + n2, rfl⟩
            show Value.int .i64 _ = _
            go_num
          · show m - (intOf (Value.int .i64 _)).toNat < m - (intOf (F 23)).toNat
            rw [H23.out]
            simp [intOf]; omega
    · go_wp2_with fail
      go_quiet (fail)
      go_wp2_with fail
      refine ⟨rfl, rfl, ?_, ?_⟩
      · refine ⟨rfl, rfl, rfl, rfl, rfl, rfl, c + 1, r, by omega, ?_, rfl, hr0, hr1, HSC.out.skip HJ.out HYE.out (fun q => hsd (by rw [HYS.out]; exact q)), n + nq, by simp [World.drewN, Nat.add_assoc]⟩
        show Value.int .i64 _ = _
        go_num
      · show m - (intOf (Value.int .i64 _)).toNat < m - (intOf (F 23)).toNat
        rw [H23.out]
        simp [intOf]; omega
  · obtain rfl : c = m := by omega
    have hl48 : len ≤ 281474976710656 := by omega
    have hCo : o + 1 ≤ C.length := by omega
    have hCs : o + 1 + s + 1 ≤ C.length := by omega
    have hC65 : o + 65 + 1 ≤ C.length := by omega
    have hC66 : o + 66 + 1 ≤ C.length := by omega
    have hC67 : o + 67 + 1 ≤ C.length := by omega
    have hxl := HX1.out.1
    obtain ⟨gk, hgk⟩ : ∃ gk, gk = W1.heap.size := ⟨_, rfl⟩
    have c1 : srcB ((W1.drewN n).alloc (.cells (zerosA len) 5)) a len = some (bv xs) := by
      have hX2 : BytesAt ((W1.drewN n).alloc (.cells (zerosA len) 5)).heap.size ((W1.drewN n).alloc (.cells (zerosA len) 5)) a len cap xs := (show BytesAt _ (W1.drewN n) _ _ _ _ from HX1.out).at_new (fun b hb => by rw [blk_alloc, if_neg (by omega)]) (by rw [World.size_alloc]; omega)
      have := hX2.src (Nat.le_refl len)
      rw [List.take_of_length_le (by omega)] at this
      exact this
    have c3 : splice (bv (List.replicate len 0)) 0 (bv xs) = bv xs := splice_all _ _ (by rw [length_bv, length_bv, hxl]; simp)
    have c4 : (zerosA len).toList = bv (List.replicate len 0) := rfl
    have c5 : (W1.drewN n).heap.size = W1.heap.size := rfl
    have HGK : Hid (gk = W1.heap.size) := hgk
    clear hgk
    go_upto_region 14 with fail
    rw [show put ((W1.drewN n).alloc (.cells (zerosA len) 5)) W1.heap.size (bv xs) = (W1.drewN n).alloc (.cells (bv xs).toArray 5) from put_alloc_new (W1.drewN n) (zerosA len) 5 (bv xs)]
    refine wp_world (fun W3 => blk W3 b = some (splice C o l.enc) ∧ free W3 b = true ∧ blk W3 bx = some (arr u8v d) ∧ gk < W3.heap.size ∧ Hid (OwnB B W3 (.slice (some ⟨gk, 0, none⟩) len len) xs) ∧ Hid (LogOk B W3 l ns ix A X) ∧ Hid (w.Extends W3)) ?_ ?_
    · have hgk := HGK.out
      refine ⟨?_, ?_, ?_, ?_, ?_, HL1.out.grow (extends_alloc (extends_drewN (ext_Ext (Ext.refl _)) n) _), extends_alloc (extends_drewN (ext_Ext HE1.out) n) _⟩
      · rw [blk_alloc, if_neg (show ¬ b = (W1.drewN n).heap.size by rw [c5]; omega)]; exact hb1
      · rw [free_alloc, if_neg (show ¬ b = (W1.drewN n).heap.size by rw [c5]; omega)]; exact hf1
      · rw [blk_alloc, if_neg (show ¬ bx = (W1.drewN n).heap.size by rw [c5]; omega)]; exact hx1
      · rw [World.size_alloc, c5]; omega
      · show OwnB _ _ _ _
        subst hxl
        refine ⟨by rw [length_bv, Nat.mul_one], .inr ⟨gk, xs.length, (bv xs).toArray, rfl, by omega, ?_, Nat.le_refl _, by simp only [maxLen]; omega, by simp [length_bv], ?_⟩⟩
        · rw [heap_alloc, if_pos (show gk = (W1.drewN n).heap.size from hgk)]
        · rw [Nat.mul_one, List.take_of_length_le (by simp [length_bv])]
    have hgkx : bx < gk := by have := HGK.out; omega
    have hW1g : W1.heap.size = gk := HGK.out.symm
    rw [hW1g]
    rintro W3 ⟨hb3, hf3, hx3, hsz3, HO3, HL3, HE3⟩
    clear c1 c3 c4 c5 hb1 hf1 hx1 hl48 hW1g
    go_wp2_with fail
    refine wp_region_held_drew (S := fun W' => blk W' bx = some (arr u8v d) ∧ True) (by kernel_rfl) ⟨hx3, trivial⟩ (fun hHeld => ?_)
    refine wpAnyH_take (i := 0) (oi := ⟨_, _, _, _, _, _⟩) (v := ?_) rfl (by kernel_rfl) (by kernel_rfl) (by kernel_rfl) (fun _ _ _ h => h) (Or.inl ⟨by rfl, ?_⟩) (by assumption) ?_
    rotate_left 1
    · intro W' hSw
      obtain ⟨hS1, hS2⟩ := hSw
      go_simp
      try with_reducible rfl
    try simp only [Act.put, List.setIfInBounds_toArray, List.set_cons_zero, List.set_cons_succ]
    refine wpAnyH_take (i := 1) (oi := ⟨_, _, _, _, _, _⟩) (v := ?_) rfl (by kernel_rfl) (by kernel_rfl) (by kernel_rfl) (fun _ _ _ h => h) (Or.inl ⟨by rfl, ?_⟩) (by assumption) ?_
    rotate_left 1
    · intro W' hSw
      obtain ⟨hS1, hS2⟩ := hSw
      go_simp
      try with_reducible rfl
    try simp only [Act.put, List.setIfInBounds_toArray, List.set_cons_zero, List.set_cons_succ]
    refine wpAnyH_take (i := 2) (oi := ⟨_, _, _, _, _, _⟩) (v := ?_) rfl (by kernel_rfl) (by kernel_rfl) (by kernel_rfl) (fun _ _ _ h => h) (Or.inl ⟨by rfl, ?_⟩) (by assumption) ?_
    rotate_left 1
    · intro W' hSw
      obtain ⟨hS1, hS2⟩ := hSw
      go_simp
      try with_reducible rfl
    try simp only [Act.put, List.setIfInBounds_toArray, List.set_cons_zero, List.set_cons_succ]
    refine wpAnyH_take (i := 3) (oi := ⟨_, _, _, _, _, _⟩) (v := ?_) rfl (by kernel_rfl) (by kernel_rfl) (by kernel_rfl) (fun _ _ _ h => h) (Or.inl ⟨by rfl, ?_⟩) (by assumption) ?_
    rotate_left 1
    · intro W' hSw
      obtain ⟨hS1, hS2⟩ := hSw
      go_simp
      try with_reducible rfl
    try simp only [Act.put, List.setIfInBounds_toArray, List.set_cons_zero, List.set_cons_succ]
    refine wpAnyH_take (i := 5) (oi := ⟨_, _, _, _, _, _⟩) (v := ?_) rfl (by kernel_rfl) (by kernel_rfl) (by kernel_rfl) (fun _ _ _ h => h) (Or.inl ⟨by rfl, ?_⟩) (by assumption) ?_
    rotate_left 1
    · intro W' hSw
      obtain ⟨hS1, hS2⟩ := hSw
      go_simp
      try with_reducible rfl
    try simp only [Act.put, List.setIfInBounds_toArray, List.set_cons_zero, List.set_cons_succ]
    refine wpAnyH_take (i := 6) (oi := ⟨_, _, _, _, _, _⟩) (v := ?_) rfl (by kernel_rfl) (by kernel_rfl) (by kernel_rfl) (fun _ _ _ h => h) (Or.inl ⟨by rfl, ?_⟩) (by assumption) ?_
    rotate_left 1
    · intro W' hSw
      obtain ⟨hS1, hS2⟩ := hSw
      go_simp
      try with_reducible rfl
    try simp only [Act.put, List.setIfInBounds_toArray, List.set_cons_zero, List.set_cons_succ]
    refine wpAnyH_take (i := 7) (oi := ⟨_, _, _, _, _, _⟩) (v := ?_) rfl (by kernel_rfl) (by kernel_rfl) (by kernel_rfl) (fun _ _ _ h => h) (Or.inl ⟨by rfl, ?_⟩) (by assumption) ?_
    rotate_left 1
    · intro W' hSw
      obtain ⟨hS1, hS2⟩ := hSw
      go_simp
      try with_reducible rfl
    try simp only [Act.put, List.setIfInBounds_toArray, List.set_cons_zero, List.set_cons_succ]
    refine wpAnyH_ready (rs := [4, 8]) (by kernel_rfl) (by simp) ?_
    refine AllReadyH.cons (o := ⟨_, _, _, _, _, _⟩) rfl (fun K hK => ?_) (AllReadyH.cons (o := ⟨_, _, _, _, _, _⟩) rfl (fun K hK => ?_) AllReadyH.nil)
    · skip
      go_simp
      refine hK.out _ _ hHeld (fun hHeld => ?_)
      clear hK K
      try simp only [Act.put, List.setIfInBounds_toArray, List.set_cons_zero, List.set_cons_succ]
      refine wpAnyH_ready (rs := [8]) (by kernel_rfl) (by simp) ?_
      refine AllReadyH.cons (o := ⟨_, _, _, _, _, _⟩) rfl (fun K hK => ?_) AllReadyH.nil
      go_simp
      refine hK.out _ _ ?_ (fun hHeld => ?_)
      · exact ⟨(blk_alloc _ _ _ _).trans ((if_neg (by omega)).trans hx3), trivial⟩
      clear hK K
      try simp only [Act.put, List.setIfInBounds_toArray, List.set_cons_zero, List.set_cons_succ]
      refine wpAnyH_ready (rs := [9]) (by kernel_rfl) (by simp) ?_
      refine AllReadyH.cons (o := ⟨_, _, _, _, _, _⟩) rfl (fun K hK => ?_) AllReadyH.nil
      rw [if_pos (by rfl)]
      obtain ⟨E4, W4, hrun4, hrow4, hg4, hbk4, hEl⟩ := append110 ((W3.alloc (.cells (Noted.enc (⟨⟨some ⟨gk, 0, none⟩, len, len⟩, d⟩ : Noted)).toArray 110)).drew) B l.entries ns (⟨⟨some ⟨gk, 0, none⟩, len, len⟩, d⟩ : Noted) W3.heap.size
        (row_keep HL3.out.rowE fun k hk => heap_alloc_old _ _ (row_at HL3.out.rowE k hk).2.1) (show (W3.alloc _).heap[W3.heap.size]? = _ by rw [heap_alloc, if_pos rfl]) (by show B ≤ (W3.alloc _).heap.size; rw [World.size_alloc]; omega) hns 32
      refine wp_append_run _ _ 32 rfl _ _ _ _ rfl rfl hrun4 ?_
      have HROW4 : Hid (W4.ownsRow B 110 33 (Sl.val E4) (ns ++ [(⟨⟨some ⟨gk, 0, none⟩, len, len⟩, d⟩ : Noted)]).length ((ns ++ [(⟨⟨some ⟨gk, 0, none⟩, len, len⟩, d⟩ : Noted)]).flatMap Noted.enc)) := hrow4
      have HG4 : Hid (((W3.alloc (.cells (Noted.enc (⟨⟨some ⟨gk, 0, none⟩, len, len⟩, d⟩ : Noted)).toArray 110)).drew).grownBy W4 (Sl.val l.entries).ownBlock) := hg4
      have HBK4 : Hid ((Sl.val E4).ownBlock = (Sl.val l.entries).ownBlock ∨ (Sl.val E4).ownBlock = some ((W3.alloc (.cells (Noted.enc (⟨⟨some ⟨gk, 0, none⟩, len, len⟩, d⟩ : Noted)).toArray 110)).drew).heap.size) := hbk4
      have hsz4a : ((W3.alloc (.cells (Noted.enc (⟨⟨some ⟨gk, 0, none⟩, len, len⟩, d⟩ : Noted)).toArray 110)).drew).heap.size = W3.heap.size + 1 := by show (W3.alloc _).heap.size = _; rw [World.size_alloc]
      have heap4 : Hid (∀ k, k < W3.heap.size → (Sl.val l.entries).ownBlock ≠ some k → W4.heap[k]? = W3.heap[k]?) := fun k hk hne => (HG4.out.block k (by omega) (Ne.symm hne)).trans (heap_alloc_old _ _ hk)
      have hbne : (Sl.val l.entries).ownBlock ≠ some b := fun e => by have := (row_at HL3.out.rowE b e).1; omega
      have hxne : (Sl.val l.entries).ownBlock ≠ some bx := fun e => by have := (row_at HL.out.rowE bx e).2.1; omega
      have hb4 : blk W4 b = some (splice C o l.enc) := (blk_of_heap (heap4.out b (by omega) hbne)).trans hb3
      have hf4 : free W4 b = true := (free_of_heap (heap4.out b (by omega) hbne)).trans hf3
      have hx4 : blk W4 bx = some (arr u8v d) := (blk_of_heap (heap4.out bx (by omega) hxne)).trans hx3
      have hsz4 : W3.heap.size + 1 ≤ W4.heap.size := by have := HG4.out.size; omega
      have HEL : Hid (E4.len = ns.length + 1) := hEl
      have hev : Sl.val E4 = .slice E4.a E4.len E4.cap := rfl
      clear hrow4 hg4 hbk4 hrun4 hbne hxne hsz4a hEl hev
      refine hK.out _ _ ⟨hx4, trivial⟩ (fun hHeld => ?_)
      clear hK K
      try simp only [Act.put, List.setIfInBounds_toArray, List.set_cons_zero, List.set_cons_succ]
      refine wpAnyH_take (i := 10) (oi := ⟨_, _, _, _, _, _⟩) (v := ?_) rfl (by kernel_rfl) (by kernel_rfl) (by kernel_rfl) (fun _ _ _ h => h) (Or.inl ⟨by rfl, ?_⟩) (by assumption) ?_
      rotate_left 1
      · intro W' hSw
        obtain ⟨hS1, hS2⟩ := hSw
        go_simp
        try with_reducible rfl
      try simp only [Act.put, List.setIfInBounds_toArray, List.set_cons_zero, List.set_cons_succ]
      refine wpAnyH_take (i := 11) (oi := ⟨_, _, _, _, _, _⟩) (v := ?_) rfl (by kernel_rfl) (by kernel_rfl) (by kernel_rfl) (fun _ _ _ h => h) (Or.inl ⟨by rfl, ?_⟩) (by assumption) ?_
      rotate_left 1
      · intro W' hSw
        obtain ⟨hS1, hS2⟩ := hSw
        go_simp
        try with_reducible rfl
      try simp only [Act.put, List.setIfInBounds_toArray, List.set_cons_zero, List.set_cons_succ]
      refine wpAnyH_ready (rs := [12]) (by kernel_rfl) (by simp) ?_
      refine AllReadyH.cons (o := ⟨_, _, _, _, _, _⟩) rfl (fun K hK => ?_) AllReadyH.nil
      go_simp
      refine hK.out _ _ ?_ (fun hHeld => ?_)
      · refine ⟨?_, trivial⟩
        rw [blk_put, if_neg (by omega)]; exact hx4
      clear hK K
      try simp only [Act.put, List.setIfInBounds_toArray, List.set_cons_zero, List.set_cons_succ]
      refine wpAnyH_done (by kernel_rfl) ?_ _
      go_wp2_with fail
      obtain ⟨l1, hl1⟩ : ∃ l1 : GLog, l1 = { l with entries := E4 } := ⟨_, rfl⟩
      refine wp_world (fun W5 => blk W5 b = some (splice C o l1.enc) ∧ free W5 b = true ∧ W4.heap.size ≤ W5.heap.size ∧ Hid (∀ k, k ≠ b → W5.heap[k]? = W4.heap[k]?) ∧ Hid (W5.os = W4.os ∧ W5.tape = W4.tape ∧ W5.output = W4.output)) ⟨?_, ?_, ?_, ?_, ?_⟩ ?_
      · rw [hl1, blk_put, if_pos rfl, hb4]; rfl
      · rw [free_put]; exact hf4
      · rw [size_put]; exact Nat.le_refl _
      · intro k hk
        rw [heap_put, if_neg hk]
      · exact ⟨rfl, rfl, rfl⟩
      rintro W5 ⟨hb5, hf5, hsz5, HK5, HOS5⟩
      clear hb4 hf4 hx4 hb3 hf3 hx3
      have hl1s : l1.shelves[s] = sh := by rw [hl1, HSH.out]
      have HL1E : Hid (l1 = { l with entries := E4 }) := hl1
      have hget5 : nth (splice C o l1.enc) (o + 1 + s) = some (Sl.val sh) := by
        rw [Nat.add_assoc, nth_splice (by rw [GLog.length_enc]; omega) (by rw [GLog.length_enc]; omega), GLog.shelves_at l1 s hs, hl1s]
      obtain ⟨ln, hln⟩ : ∃ ln, ln = ns.length := ⟨_, rfl⟩
      have hent5 : nth (splice C o l1.enc) o = some (.slice E4.a (ln + 1) E4.cap) := by
        rw [nth_splice0 (by rw [GLog.length_enc]; omega) (by rw [GLog.length_enc]; omega), GLog.entries_get, hl1]
        show some (Value.slice E4.a E4.len E4.cap) = _
        rw [HEL.out, hln]
      have hl5 : (splice C o l1.enc).length = C.length := length_splice _ _ _ (by rw [GLog.length_enc]; omega)
      have hwr : IntKind.i64.wrap (((ln + 1 : Nat) : Int) - 1) = (ln : Int) := by rw [wraps_i64 _ (by omega) (by omega)]; omega
      have hwr' : IntKind.i64.wrap ((ln : Int) + 1 - 1) = (ln : Int) := by rw [wraps_i64 _ (by omega) (by omega)]; omega
      have hwr2 : IntKind.i64.wrap (ln : Int) = (ln : Int) := wraps_i64 _ (by omega) (by omega)
      have HLN : Hid (ln = ns.length) := hln
      have hlns : ln ≤ 70000 := by omega
      clear hl1 hln hl1s hget hsv
      refine wp_region_held_drew (S := fun W' => (∃ D, blk W' b = some D ∧ nth D o = some (.slice E4.a (ln + 1) E4.cap)) ∧ True) (by kernel_rfl) ⟨⟨_, hb5, hent5⟩, trivial⟩ (fun hHeld => ?_)
      refine wpAnyH_take (i := 0) (oi := ⟨_, _, _, _, _, _⟩) (v := ?_) rfl (by kernel_rfl) (by kernel_rfl) (by kernel_rfl) (fun _ _ _ h => h) (Or.inl ⟨by rfl, ?_⟩) (by assumption) ?_
      rotate_left 1
      · intro W' hSw
        obtain ⟨⟨D', hS1, hS3⟩, hS2⟩ := hSw
        go_simp
        try with_reducible rfl
      try simp only [Act.put, List.setIfInBounds_toArray, List.set_cons_zero, List.set_cons_succ]
      refine wpAnyH_take (i := 1) (oi := ⟨_, _, _, _, _, _⟩) (v := ?_) rfl (by kernel_rfl) (by kernel_rfl) (by kernel_rfl) (fun _ _ _ h => h) (Or.inl ⟨by rfl, ?_⟩) (by assumption) ?_
      rotate_left 1
      · intro W' hSw
        obtain ⟨⟨D', hS1, hS3⟩, hS2⟩ := hSw
        go_simp
        try with_reducible rfl
      try simp only [Act.put, List.setIfInBounds_toArray, List.set_cons_zero, List.set_cons_succ]
      refine wpAnyH_take (i := 2) (oi := ⟨_, _, _, _, _, _⟩) (v := ?_) rfl (by kernel_rfl) (by kernel_rfl) (by kernel_rfl) (fun _ _ _ h => h) (Or.inl ⟨by rfl, ?_⟩) (by assumption) ?_
      rotate_left 1
      · intro W' hSw
        obtain ⟨⟨D', hS1, hS3⟩, hS2⟩ := hSw
        go_simp
        try with_reducible rfl
      try simp only [Act.put, List.setIfInBounds_toArray, List.set_cons_zero, List.set_cons_succ]
      refine wpAnyH_take (i := 3) (oi := ⟨_, _, _, _, _, _⟩) (v := ?_) rfl (by kernel_rfl) (by kernel_rfl) (by kernel_rfl) (fun _ _ _ h => h) (Or.inl ⟨by rfl, ?_⟩) (by assumption) ?_
      rotate_left 1
      · intro W' hSw
        obtain ⟨⟨D', hS1, hS3⟩, hS2⟩ := hSw
        go_simp
        try with_reducible rfl
      try simp only [Act.put, List.setIfInBounds_toArray, List.set_cons_zero, List.set_cons_succ]
      refine wpAnyH_take (i := 4) (oi := ⟨_, _, _, _, _, _⟩) (v := ?_) rfl (by kernel_rfl) (by kernel_rfl) (by kernel_rfl) (fun _ _ _ h => h) (Or.inl ⟨by rfl, ?_⟩) (by assumption) ?_
      rotate_left 1
      · intro W' hSw
        obtain ⟨⟨D', hS1, hS3⟩, hS2⟩ := hSw
        go_simp
        try with_reducible rfl
      try simp only [Act.put, List.setIfInBounds_toArray, List.set_cons_zero, List.set_cons_succ]
      refine wpAnyH_take (i := 5) (oi := ⟨_, _, _, _, _, _⟩) (v := ?_) rfl (by kernel_rfl) (by kernel_rfl) (by kernel_rfl) (fun _ _ _ h => h) (Or.inl ⟨by rfl, ?_⟩) (by assumption) ?_
      rotate_left 1
      · intro W' hSw
        obtain ⟨⟨D', hS1, hS3⟩, hS2⟩ := hSw
        go_simp
        try with_reducible rfl
      try simp only [Act.put, List.setIfInBounds_toArray, List.set_cons_zero, List.set_cons_succ]
      refine wpAnyH_take (i := 6) (oi := ⟨_, _, _, _, _, _⟩) (v := ?_) rfl (by kernel_rfl) (by kernel_rfl) (by kernel_rfl) (fun _ _ _ h => h) (Or.inl ⟨by rfl, ?_⟩) (by assumption) ?_
      rotate_left 1
      · intro W' hSw
        obtain ⟨⟨D', hS1, hS3⟩, hS2⟩ := hSw
        go_simp
        try with_reducible rfl
      try simp only [Act.put, List.setIfInBounds_toArray, List.set_cons_zero, List.set_cons_succ]
      refine wpAnyH_take (i := 8) (oi := ⟨_, _, _, _, _, _⟩) (v := ?_) rfl (by kernel_rfl) (by kernel_rfl) (by kernel_rfl) (fun _ _ _ h => h) (Or.inl ⟨by rfl, ?_⟩) (by assumption) ?_
      rotate_left 1
      · intro W' hSw
        obtain ⟨⟨D', hS1, hS3⟩, hS2⟩ := hSw
        go_simp
        try with_reducible rfl
      try simp only [Act.put, List.setIfInBounds_toArray, List.set_cons_zero, List.set_cons_succ]
      refine wpAnyH_take (i := 9) (oi := ⟨_, _, _, _, _, _⟩) (v := ?_) rfl (by kernel_rfl) (by kernel_rfl) (by kernel_rfl) (fun _ _ _ h => h) (Or.inl ⟨by rfl, ?_⟩) (by assumption) ?_
      rotate_left 1
      · intro W' hSw
        obtain ⟨⟨D', hS1, hS3⟩, hS2⟩ := hSw
        go_simp
        try with_reducible rfl
      try simp only [Act.put, List.setIfInBounds_toArray, List.set_cons_zero, List.set_cons_succ]
      refine wpAnyH_take (i := 10) (oi := ⟨_, _, _, _, _, _⟩) (v := ?_) rfl (by kernel_rfl) (by kernel_rfl) (by kernel_rfl) (fun _ _ _ h => h) (Or.inl ⟨by rfl, ?_⟩) (by assumption) ?_
      rotate_left 1
      · intro W' hSw
        obtain ⟨⟨D', hS1, hS3⟩, hS2⟩ := hSw
        go_simp
        try with_reducible rfl
      try simp only [Act.put, List.setIfInBounds_toArray, List.set_cons_zero, List.set_cons_succ]
      refine wpAnyH_take (i := 11) (oi := ⟨_, _, _, _, _, _⟩) (v := ?_) rfl (by kernel_rfl) (by kernel_rfl) (by kernel_rfl) (fun _ _ _ h => h) (Or.inl ⟨by rfl, ?_⟩) (by assumption) ?_
      rotate_left 1
      · intro W' hSw
        obtain ⟨⟨D', hS1, hS3⟩, hS2⟩ := hSw
        go_simp
        try with_reducible rfl
      try simp only [Act.put, List.setIfInBounds_toArray, List.set_cons_zero, List.set_cons_succ]
      refine wpAnyH_take (i := 12) (oi := ⟨_, _, _, _, _, _⟩) (v := ?_) rfl (by kernel_rfl) (by kernel_rfl) (by kernel_rfl) (fun _ _ _ h => h) (Or.inl ⟨by rfl, ?_⟩) (by assumption) ?_
      rotate_left 1
      · intro W' hSw
        obtain ⟨⟨D', hS1, hS3⟩, hS2⟩ := hSw
        go_simp
        try with_reducible rfl
      try simp only [Act.put, List.setIfInBounds_toArray, List.set_cons_zero, List.set_cons_succ]
      refine wpAnyH_take (i := 13) (oi := ⟨_, _, _, _, _, _⟩) (v := ?_) rfl (by kernel_rfl) (by kernel_rfl) (by kernel_rfl) (fun _ _ _ h => h) (Or.inl ⟨by rfl, ?_⟩) (by assumption) ?_
      rotate_left 1
      · intro W' hSw
        obtain ⟨⟨D', hS1, hS3⟩, hS2⟩ := hSw
        go_simp
        try with_reducible rfl
      try simp only [Act.put, List.setIfInBounds_toArray, List.set_cons_zero, List.set_cons_succ]
      refine wpAnyH_take (i := 16) (oi := ⟨_, _, _, _, _, _⟩) (v := ?_) rfl (by kernel_rfl) (by kernel_rfl) (by kernel_rfl) (fun _ _ _ h => h) (Or.inl ⟨by rfl, ?_⟩) (by assumption) ?_
      rotate_left 1
      · intro W' hSw
        obtain ⟨⟨D', hS1, hS3⟩, hS2⟩ := hSw
        go_simp
        try with_reducible rfl
      try simp only [Act.put, List.setIfInBounds_toArray, List.set_cons_zero, List.set_cons_succ]
      refine wpAnyH_take (i := 17) (oi := ⟨_, _, _, _, _, _⟩) (v := ?_) rfl (by kernel_rfl) (by kernel_rfl) (by kernel_rfl) (fun _ _ _ h => h) (Or.inl ⟨by rfl, ?_⟩) (by assumption) ?_
      rotate_left 1
      · intro W' hSw
        obtain ⟨⟨D', hS1, hS3⟩, hS2⟩ := hSw
        go_simp
        try with_reducible rfl
      try simp only [Act.put, List.setIfInBounds_toArray, List.set_cons_zero, List.set_cons_succ]
      refine wpAnyH_ready (rs := [7, 14]) (by kernel_rfl) (by simp) ?_
      refine AllReadyH.cons (o := ⟨_, _, _, _, _, _⟩) rfl (fun K hK => ?_) (AllReadyH.cons (o := ⟨_, _, _, _, _, _⟩) rfl (fun K hK => ?_) AllReadyH.nil)
      · skip
        go_simp
        refine hK.out _ _ hHeld (fun hHeld => ?_)
        clear hK K
        try simp only [Act.put, List.setIfInBounds_toArray, List.set_cons_zero, List.set_cons_succ]
        refine wpAnyH_ready (rs := [14]) (by kernel_rfl) (by simp) ?_
        refine AllReadyH.cons (o := ⟨_, _, _, _, _, _⟩) rfl (fun K hK => ?_) AllReadyH.nil
        go_simp
        refine hK.out _ _ ?_ (fun hHeld => ?_)
        · exact ⟨⟨_, (blk_alloc _ _ _ _).trans ((if_neg (by omega)).trans hb5), hent5⟩, trivial⟩
        clear hK K
        try simp only [Act.put, List.setIfInBounds_toArray, List.set_cons_zero, List.set_cons_succ]
        refine wpAnyH_ready (rs := [15]) (by kernel_rfl) (by simp) ?_
        refine AllReadyH.cons (o := ⟨_, _, _, _, _, _⟩) rfl (fun K hK => ?_) AllReadyH.nil
        rw [if_pos (by rfl)]
        have hrow5 : W5.ownsRow B 3 1 (Sl.val sh) (ix s).length ((ix s).map fun j => .int .i64 (j : Nat)) := by
          have h0 := HL3.out.rowS s hs
          rw [← HSH.out] at h0
          refine row_keep h0 fun k hk => ?_
          have hk2 := row_at h0 k hk
          rw [HK5.out k (by omega), heap4.out k hk2.2.1 (row_ne h0 HL3.out.rowE (by decide) k hk)]
        obtain ⟨S6, W6, hrun6, hrow6, hg6, hbk6⟩ := append3 ((W5.alloc (.cells #[.int .i64 (ln : Nat)] 3)).drew) B sh (ix s) ln W5.heap.size
          (row_keep hrow5 fun k hk => heap_alloc_old _ _ (row_at hrow5 k hk).2.1) (show (W5.alloc _).heap[W5.heap.size]? = _ by rw [heap_alloc, if_pos rfl]) (by show B ≤ (W5.alloc _).heap.size; rw [World.size_alloc]; omega) (by have := HL.out.few s hs; omega) 33
        refine wp_append_run _ _ 33 rfl _ _ _ _ rfl rfl hrun6 ?_
        have hsz6a : ((W5.alloc (.cells #[.int .i64 (ln : Nat)] 3)).drew).heap.size = W5.heap.size + 1 := by show (W5.alloc _).heap.size = _; rw [World.size_alloc]
        have hsh3 : ∀ k, (Sl.val sh).ownBlock = some k → B ≤ k ∧ k < W3.heap.size := fun k hk => by
          have h0 := HL3.out.rowS s hs
          rw [← HSH.out] at h0
          have := row_at h0 k hk
          exact ⟨this.1, this.2.1⟩
        have heap6 : Hid (∀ k, k < W5.heap.size → (Sl.val sh).ownBlock ≠ some k → W6.heap[k]? = W5.heap[k]?) := fun k hk hne => (hg6.block k (by omega) (Ne.symm hne)).trans (heap_alloc_old _ _ hk)
        have hb6 : blk W6 b = some (splice C o l1.enc) := (blk_of_heap (heap6.out b (by omega) (fun e => by have := (hsh3 b e).1; omega))).trans hb5
        have hf6 : free W6 b = true := (free_of_heap (heap6.out b (by omega) (fun e => by have := (hsh3 b e).1; omega))).trans hf5
        have hsz6 : W5.heap.size + 1 ≤ W6.heap.size := by have := hg6.size; omega
        have HROW6 : Hid (W6.ownsRow B 3 1 (Sl.val S6) (ix s ++ [ln]).length ((ix s ++ [ln]).map fun j => .int .i64 (j : Nat))) := hrow6
        have HBK6 : Hid ((Sl.val S6).ownBlock = (Sl.val sh).ownBlock ∨ (Sl.val S6).ownBlock = some (W5.heap.size + 1)) := by
          rcases hbk6 with e | e
          · exact .inl e
          · exact .inr (by rw [e, hsz6a])
        have HOS6 : Hid (W6.os = W5.os ∧ W6.tape = W5.tape ∧ W6.output = W5.output) := ⟨hg6.os, hg6.tape, hg6.output⟩
        have HROW5 : Hid (W5.ownsRow B 3 1 (Sl.val sh) (ix s).length ((ix s).map fun j => .int .i64 (j : Nat))) := hrow5
        obtain ⟨l2, hl2⟩ : ∃ l2 : GLog, l2 = { l1 with shelves := l1.shelves.set s S6 hs } := ⟨_, rfl⟩
        have hset6 : splice (splice C o l1.enc) (o + 1 + s) [Sl.val S6] = splice C o l2.enc := by
          rw [Nat.add_assoc, splice_splice (by rw [GLog.length_enc]; omega) (by rw [GLog.length_enc]; simp; omega), GLog.shelves_put l1 s S6 hs, hl2]
        have HL2E : Hid (l2 = { l1 with shelves := l1.shelves.set s S6 hs }) := hl2
        have hsv6 : cellsV (Sl.val S6) = [Sl.val S6] := rfl
        clear hrow6 hg6 hbk6 hrun6 hsz6a hl2
        refine hK.out _ _ ⟨⟨_, hb6, hent5⟩, trivial⟩ (fun hHeld => ?_)
        clear hK K
        try simp only [Act.put, List.setIfInBounds_toArray, List.set_cons_zero, List.set_cons_succ]
        refine wpAnyH_take (i := 18) (oi := ⟨_, _, _, _, _, _⟩) (v := ?_) rfl (by kernel_rfl) (by kernel_rfl) (by kernel_rfl) (fun _ _ _ h => h) (Or.inl ⟨by rfl, ?_⟩) (by assumption) ?_
        rotate_left 1
        · intro W' hSw
          clear hSw
          go_simp
          try with_reducible rfl
        try simp only [Act.put, List.setIfInBounds_toArray, List.set_cons_zero, List.set_cons_succ]
        refine wpAnyH_ready (rs := [19]) (by kernel_rfl) (by simp) ?_
        refine AllReadyH.cons (o := ⟨_, _, _, _, _, _⟩) rfl (fun K hK => ?_) AllReadyH.nil
        go_simp
        refine hK.out _ _ ?_ (fun hHeld => ?_)
        · refine ⟨⟨splice C o l2.enc, ?_, ?_⟩, trivial⟩
          · rw [blk_put, if_pos rfl, hb6, ← hset6]; rfl
          · rw [nth_splice0 (by rw [GLog.length_enc]; omega) (by rw [GLog.length_enc]; omega), GLog.entries_get, HL2E.out, HL1E.out]
            show some (Value.slice E4.a E4.len E4.cap) = _
            rw [HEL.out, HLN.out]
        clear hK K
        try simp only [Act.put, List.setIfInBounds_toArray, List.set_cons_zero, List.set_cons_succ]
        refine wpAnyH_done (by kernel_rfl) ?_ _
        have hev2 : Sl.val l2.entries = .slice E4.a (ln + 1) E4.cap := by
          rw [HL2E.out, HL1E.out]
          show Value.slice E4.a E4.len E4.cap = _
          rw [HEL.out, HLN.out]
        go_upto_region 16 with fail
        refine wp_world (fun W7 => blk W7 b = some (splice C o l2.enc) ∧ free W7 b = true ∧ W6.heap.size ≤ W7.heap.size ∧ Hid (∀ k, k ≠ b → W7.heap[k]? = W6.heap[k]?) ∧ Hid (W7.os = W6.os ∧ W7.tape = W6.tape ∧ W7.output = W6.output)) ⟨?_, ?_, ?_, ?_, ?_⟩ ?_
        · rw [blk_put, if_pos rfl, hb6]; rfl
        · rw [free_put]; exact hf6
        · rw [size_put]; exact Nat.le_refl _
        · intro k hk
          rw [heap_put, if_neg hk]
        · exact ⟨rfl, rfl, rfl⟩
        rintro W7 ⟨hb7, hf7, hsz7, HK7, HOS7⟩
        have FIN : Hid (∀ (l3 : GLog) (W8 : World) (fd : Option (Nat × Nat)), l3.found = fd.isSome → (∀ i j, fd = some (i, j) → l3.first = (i : Int) ∧ l3.second = (j : Int)) → l3.entries = l2.entries → l3.shelves = l2.shelves → blk W8 b = some (splice C o l3.enc) → free W8 b = true → W7.heap.size ≤ W8.heap.size → (∀ k, k ≠ b → W8.heap[k]? = W7.heap[k]?) → W8.os = W7.os → W8.tape = W7.tape → W8.output = W7.output →
            NoteOut B b o C l ns w W8 l3 (ns ++ [(⟨⟨some ⟨gk, 0, none⟩, len, len⟩, d⟩ : Noted)]) (fun t => if t = s then ix s ++ [ns.length] else ix t) ⟨A.es ++ [(xs, d)], fd⟩ X) := by
          intro l3 W8 fd hfn hfs he3 hs3 hb8 hf8 hsz8 hk8 ho1 ho2 ho3
          have hk0 : ∀ k, k < W3.heap.size → k ≠ b → (Sl.val l.entries).ownBlock ≠ some k → (Sl.val sh).ownBlock ≠ some k → W8.heap[k]? = W3.heap[k]? := fun k h1 h2 h3 h4 => by
            rw [hk8 k h2, HK7.out k h2, heap6.out k (by omega) h4, HK5.out k h2, heap4.out k h1 h3]
          have hrE5 : W5.ownsRow B 110 33 (Sl.val E4) (ns ++ [(⟨⟨some ⟨gk, 0, none⟩, len, len⟩, d⟩ : Noted)]).length ((ns ++ [(⟨⟨some ⟨gk, 0, none⟩, len, len⟩, d⟩ : Noted)]).flatMap Noted.enc) := row_keep HROW4.out fun k hk => HK5.out k (by have := (row_at HROW4.out k hk).1; omega)
          have hE8 : W8.ownsRow B 110 33 (Sl.val l3.entries) (ns ++ [(⟨⟨some ⟨gk, 0, none⟩, len, len⟩, d⟩ : Noted)]).length ((ns ++ [(⟨⟨some ⟨gk, 0, none⟩, len, len⟩, d⟩ : Noted)]).flatMap Noted.enc) := by
            rw [he3, HL2E.out, HL1E.out]
            refine row_keep hrE5 fun k hk => ?_
            have hk2 := row_at hrE5 k hk
            rw [hk8 k (by omega), HK7.out k (by omega), heap6.out k hk2.2.1 (row_ne hrE5 HROW5.out (by decide) k hk)]
          have hS8 : W8.ownsRow B 3 1 (Sl.val S6) (ix s ++ [ns.length]).length ((ix s ++ [ns.length]).map fun j => .int .i64 (j : Nat)) := by
            rw [← HLN.out]
            refine row_keep HROW6.out fun k hk => ?_
            have hk2 := row_at HROW6.out k hk
            rw [hk8 k (by omega), HK7.out k (by omega)]
          have hsh : (Sl.val sh).ownBlock = (Sl.val l.shelves[s]).ownBlock := by rw [HSH.out]
          have hgkE : (Sl.val l.entries).ownBlock ≠ some gk := fun e => by have := (row_at HL.out.rowE gk e).2.1; omega
          have hgkS : (Sl.val sh).ownBlock ≠ some gk := fun e => by rw [hsh] at e; have := (row_at (HL.out.rowS s hs) gk e).2.1; omega
          refine ⟨hb8, hf8, ?_, by simp, ?_, ?_, ?_, ?_, ?_⟩
          · refine HL3.out.noted hs (S' := S6) (kept := ⟨some ⟨gk, 0, none⟩, len, len⟩) (d := d) (xs := xs) (fun k h1 h2 h3 h4 => hk0 k h1 (by omega) h3 (by rw [hsh]; exact h4)) l3 hE8 hS8 ?_ ?_ (by omega) ?_ HS0.out (fun k hk hx => by have h1 : k = gk := (Option.some.inj hk).symm; have h2 := HXW.out k hx; omega) hfn hfs
            · rcases HBK6.out with e | e
              · exact .inl (by rw [e, hsh])
              · exact .inr fun k hk => by rw [e] at hk; have := Option.some.inj hk; omega
            · exact HO3.out.keep fun k hk => by
                have : k = gk := (Option.some.inj hk).symm
                subst this
                exact hk0 k (by omega) (by omega) hgkE hgkS
            · rw [hs3, HL2E.out, HL1E.out]
          · have := HE3.out.size; omega
          · rw [ho1, HOS7.out.1, HOS6.out.1, HOS5.out.1, HG4.out.os]; exact HE3.out.os
          · rw [ho2, HOS7.out.2.1, HOS6.out.2.1, HOS5.out.2.1, HG4.out.tape]; exact HE3.out.tape
          · rw [ho3, HOS7.out.2.2, HOS6.out.2.2, HOS5.out.2.2, HG4.out.output]; exact HE3.out.output
          · intro k h1 h2 h3 h4
            rw [hk0 k (by have := HE3.out.size; omega) h2 h3 (by rw [hsh]; exact h4 s hs)]
            exact HE3.out.block k h1
        clear hb6 hf6 hb5 hf5 hent5 hset6
        have hend : (xs, d) ∉ A.es ∧ (r < 0 → A.es.findIdx? (fun e => decide (e.2 = d)) = none) ∧ (¬ r < 0 → ∃ j : Nat, r = (j : Int) ∧ A.es.findIdx? (fun e => decide (e.2 = d)) = some j) := by
          have h1 := HSC.out
          rw [HL.out.ixs s hs, HS0.out] at h1
          have h2 := HM.out
          rw [HL.out.ixs s hs, HS0.out] at h2
          exact Scan.end h1 h2
        have hlf : l2.found = A.fd.isSome := by rw [HL2E.out, HL1E.out]; exact HL.out.fnd
        have hls : ∀ i j, A.fd = some (i, j) → l2.first = (i : Int) ∧ l2.second = (j : Int) := by rw [HL2E.out, HL1E.out]; exact HL.out.fst
        obtain ⟨hnin, hno, hyes⟩ := hend
        have HNI : Hid ((xs, d) ∉ A.es) := hnin
        have HLS : Hid (∀ i j, A.fd = some (i, j) → l2.first = (i : Int) ∧ l2.second = (j : Int)) := hls
        have HLF : Hid (l2.found = A.fd.isSome) := hlf
        clear hnin hls hlf
        by_cases hrn : r < 0
        · have hq : (A', k') = (⟨A.es ++ [(xs, d)], A.fd⟩, 1) := HA.out.symm.trans (noteA_fresh HNI.out (hno hrn))
          injection hq with hq1 hq2
          subst hq1 hq2
          clear hno hyes
          go_wp2_with fail
          go_ret
          exact ⟨l2, _, _, rfl, FIN.out l2 W7 _ HLF.out HLS.out rfl rfl hb7 hf7 (Nat.le_refl _) (fun k _ => rfl) rfl rfl rfl⟩
        · obtain ⟨rj, hrj, hfi⟩ := hyes hrn
          have HRJ : Hid (r = (rj : Int)) := hrj
          have HFI : Hid (A.es.findIdx? (fun e => decide (e.2 = d)) = some rj) := hfi
          clear hno hyes hrj hfi
          by_cases hfo : l2.found = true
          · have hq : (A', k') = (⟨A.es ++ [(xs, d)], A.fd⟩, 3) := HA.out.symm.trans (noteA_old HNI.out HFI.out (HLF.out.symm.trans hfo))
            injection hq with hq1 hq2
            subst hq1 hq2
            go_wp2_with fail
            go_ret
            have HH := FIN.out l2 W7 _ HLF.out HLS.out rfl rfl hb7 hf7 (Nat.le_refl _) (fun k _ => rfl) rfl rfl rfl
            first | exact ⟨_, _, _, rfl, HH⟩ | exact ⟨rfl, _, _, _, HH⟩ | exact ⟨_, _, _, HH⟩
          · have hfo' : l2.found = false := by simpa using hfo
            have hnon : A.fd = none := by
              have := HLF.out
              rw [hfo'] at this
              cases hh : A.fd with
              | none => rfl
              | some q => rw [hh] at this; simp at this
            have hq : (A', k') = (⟨A.es ++ [(xs, d)], some (rj, A.es.length)⟩, 3) := HA.out.symm.trans (noteA_met HNI.out HFI.out hnon)
            injection hq with hq1 hq2
            subst hq1 hq2
            clear hnon
            go_wp2_with fail
            go_ret
            have HH := FIN.out { l2 with found := true, first := r, second := (ln : Int) } (put W7 b (splice C o ({ l2 with found := true, first := r, second := (ln : Int) } : GLog).enc)) (some (rj, A.es.length)) rfl (fun i j hij => by injection hij with hij; injection hij with h1 h2; subst h1 h2; exact ⟨HRJ.out, by show (ln : Int) = _; rw [HLN.out, HL.out.clen]⟩) rfl rfl (by rw [blk_put, if_pos rfl, hb7]; rfl) (by rw [free_put]; exact hf7) (by rw [size_put]; exact Nat.le_refl _) (fun k hk => by rw [heap_put, if_neg hk]) rfl rfl rfl
            first | exact ⟨_, _, _, rfl, HH⟩ | exact ⟨rfl, _, _, _, HH⟩ | exact ⟨_, _, _, HH⟩
      · skip
        go_simp
        refine hK.out _ _ ⟨⟨_, (blk_alloc _ _ _ _).trans ((if_neg (by omega)).trans hb5), hent5⟩, trivial⟩ (fun hHeld => ?_)
        clear hK K
        try simp only [Act.put, List.setIfInBounds_toArray, List.set_cons_zero, List.set_cons_succ]
        have hbW : b ≠ W5.heap.size := by omega
        refine wpAnyH_ready (rs := [7]) (by kernel_rfl) (by simp) ?_
        refine AllReadyH.cons (o := ⟨_, _, _, _, _, _⟩) rfl (fun K hK => ?_) AllReadyH.nil
        go_simp
        refine hK.out _ _ ?_ (fun hHeld => ?_)
        · exact hHeld
        clear hK K
        try simp only [Act.put, List.setIfInBounds_toArray, List.set_cons_zero, List.set_cons_succ]
        refine wpAnyH_ready (rs := [15]) (by kernel_rfl) (by simp) ?_
        refine AllReadyH.cons (o := ⟨_, _, _, _, _, _⟩) rfl (fun K hK => ?_) AllReadyH.nil
        rw [if_pos (by rfl)]
        have hrow5 : W5.ownsRow B 3 1 (Sl.val sh) (ix s).length ((ix s).map fun j => .int .i64 (j : Nat)) := by
          have h0 := HL3.out.rowS s hs
          rw [← HSH.out] at h0
          refine row_keep h0 fun k hk => ?_
          have hk2 := row_at h0 k hk
          rw [HK5.out k (by omega), heap4.out k hk2.2.1 (row_ne h0 HL3.out.rowE (by decide) k hk)]
        obtain ⟨S6, W6, hrun6, hrow6, hg6, hbk6⟩ := append3 ((W5.alloc (.cells #[.int .i64 (ln : Nat)] 3)).drew) B sh (ix s) ln W5.heap.size
          (row_keep hrow5 fun k hk => heap_alloc_old _ _ (row_at hrow5 k hk).2.1) (show (W5.alloc _).heap[W5.heap.size]? = _ by rw [heap_alloc, if_pos rfl]) (by show B ≤ (W5.alloc _).heap.size; rw [World.size_alloc]; omega) (by have := HL.out.few s hs; omega) 33
        refine wp_append_run _ _ 33 rfl _ _ _ _ rfl rfl hrun6 ?_
        have hsz6a : ((W5.alloc (.cells #[.int .i64 (ln : Nat)] 3)).drew).heap.size = W5.heap.size + 1 := by show (W5.alloc _).heap.size = _; rw [World.size_alloc]
        have hsh3 : ∀ k, (Sl.val sh).ownBlock = some k → B ≤ k ∧ k < W3.heap.size := fun k hk => by
          have h0 := HL3.out.rowS s hs
          rw [← HSH.out] at h0
          have := row_at h0 k hk
          exact ⟨this.1, this.2.1⟩
        have heap6 : Hid (∀ k, k < W5.heap.size → (Sl.val sh).ownBlock ≠ some k → W6.heap[k]? = W5.heap[k]?) := fun k hk hne => (hg6.block k (by omega) (Ne.symm hne)).trans (heap_alloc_old _ _ hk)
        have hb6 : blk W6 b = some (splice C o l1.enc) := (blk_of_heap (heap6.out b (by omega) (fun e => by have := (hsh3 b e).1; omega))).trans hb5
        have hf6 : free W6 b = true := (free_of_heap (heap6.out b (by omega) (fun e => by have := (hsh3 b e).1; omega))).trans hf5
        have hsz6 : W5.heap.size + 1 ≤ W6.heap.size := by have := hg6.size; omega
        have HROW6 : Hid (W6.ownsRow B 3 1 (Sl.val S6) (ix s ++ [ln]).length ((ix s ++ [ln]).map fun j => .int .i64 (j : Nat))) := hrow6
        have HBK6 : Hid ((Sl.val S6).ownBlock = (Sl.val sh).ownBlock ∨ (Sl.val S6).ownBlock = some (W5.heap.size + 1)) := by
          rcases hbk6 with e | e
          · exact .inl e
          · exact .inr (by rw [e, hsz6a])
        have HOS6 : Hid (W6.os = W5.os ∧ W6.tape = W5.tape ∧ W6.output = W5.output) := ⟨hg6.os, hg6.tape, hg6.output⟩
        have HROW5 : Hid (W5.ownsRow B 3 1 (Sl.val sh) (ix s).length ((ix s).map fun j => .int .i64 (j : Nat))) := hrow5
        obtain ⟨l2, hl2⟩ : ∃ l2 : GLog, l2 = { l1 with shelves := l1.shelves.set s S6 hs } := ⟨_, rfl⟩
        have hset6 : splice (splice C o l1.enc) (o + 1 + s) [Sl.val S6] = splice C o l2.enc := by
          rw [Nat.add_assoc, splice_splice (by rw [GLog.length_enc]; omega) (by rw [GLog.length_enc]; simp; omega), GLog.shelves_put l1 s S6 hs, hl2]
        have HL2E : Hid (l2 = { l1 with shelves := l1.shelves.set s S6 hs }) := hl2
        have hsv6 : cellsV (Sl.val S6) = [Sl.val S6] := rfl
        clear hrow6 hg6 hbk6 hrun6 hsz6a hl2
        refine hK.out _ _ ⟨⟨_, hb6, hent5⟩, trivial⟩ (fun hHeld => ?_)
        clear hK K
        try simp only [Act.put, List.setIfInBounds_toArray, List.set_cons_zero, List.set_cons_succ]
        refine wpAnyH_take (i := 18) (oi := ⟨_, _, _, _, _, _⟩) (v := ?_) rfl (by kernel_rfl) (by kernel_rfl) (by kernel_rfl) (fun _ _ _ h => h) (Or.inl ⟨by rfl, ?_⟩) (by assumption) ?_
        rotate_left 1
        · intro W' hSw
          clear hSw
          go_simp
          try with_reducible rfl
        try simp only [Act.put, List.setIfInBounds_toArray, List.set_cons_zero, List.set_cons_succ]
        refine wpAnyH_ready (rs := [19]) (by kernel_rfl) (by simp) ?_
        refine AllReadyH.cons (o := ⟨_, _, _, _, _, _⟩) rfl (fun K hK => ?_) AllReadyH.nil
        go_simp
        refine hK.out _ _ ?_ (fun hHeld => ?_)
        · refine ⟨⟨splice C o l2.enc, ?_, ?_⟩, trivial⟩
          · rw [blk_put, if_pos rfl, hb6, ← hset6]; rfl
          · rw [nth_splice0 (by rw [GLog.length_enc]; omega) (by rw [GLog.length_enc]; omega), GLog.entries_get, HL2E.out, HL1E.out]
            show some (Value.slice E4.a E4.len E4.cap) = _
            rw [HEL.out, HLN.out]
        clear hK K
        try simp only [Act.put, List.setIfInBounds_toArray, List.set_cons_zero, List.set_cons_succ]
        refine wpAnyH_done (by kernel_rfl) ?_ _
        have hev2 : Sl.val l2.entries = .slice E4.a (ln + 1) E4.cap := by
          rw [HL2E.out, HL1E.out]
          show Value.slice E4.a E4.len E4.cap = _
          rw [HEL.out, HLN.out]
        go_upto_region 16 with fail
        refine wp_world (fun W7 => blk W7 b = some (splice C o l2.enc) ∧ free W7 b = true ∧ W6.heap.size ≤ W7.heap.size ∧ Hid (∀ k, k ≠ b → W7.heap[k]? = W6.heap[k]?) ∧ Hid (W7.os = W6.os ∧ W7.tape = W6.tape ∧ W7.output = W6.output)) ⟨?_, ?_, ?_, ?_, ?_⟩ ?_
        · rw [blk_put, if_pos rfl, hb6]; rfl
        · rw [free_put]; exact hf6
        · rw [size_put]; exact Nat.le_refl _
        · intro k hk
          rw [heap_put, if_neg hk]
        · exact ⟨rfl, rfl, rfl⟩
        rintro W7 ⟨hb7, hf7, hsz7, HK7, HOS7⟩
        have FIN : Hid (∀ (l3 : GLog) (W8 : World) (fd : Option (Nat × Nat)), l3.found = fd.isSome → (∀ i j, fd = some (i, j) → l3.first = (i : Int) ∧ l3.second = (j : Int)) → l3.entries = l2.entries → l3.shelves = l2.shelves → blk W8 b = some (splice C o l3.enc) → free W8 b = true → W7.heap.size ≤ W8.heap.size → (∀ k, k ≠ b → W8.heap[k]? = W7.heap[k]?) → W8.os = W7.os → W8.tape = W7.tape → W8.output = W7.output →
            NoteOut B b o C l ns w W8 l3 (ns ++ [(⟨⟨some ⟨gk, 0, none⟩, len, len⟩, d⟩ : Noted)]) (fun t => if t = s then ix s ++ [ns.length] else ix t) ⟨A.es ++ [(xs, d)], fd⟩ X) := by
          intro l3 W8 fd hfn hfs he3 hs3 hb8 hf8 hsz8 hk8 ho1 ho2 ho3
          have hk0 : ∀ k, k < W3.heap.size → k ≠ b → (Sl.val l.entries).ownBlock ≠ some k → (Sl.val sh).ownBlock ≠ some k → W8.heap[k]? = W3.heap[k]? := fun k h1 h2 h3 h4 => by
            rw [hk8 k h2, HK7.out k h2, heap6.out k (by omega) h4, HK5.out k h2, heap4.out k h1 h3]
          have hrE5 : W5.ownsRow B 110 33 (Sl.val E4) (ns ++ [(⟨⟨some ⟨gk, 0, none⟩, len, len⟩, d⟩ : Noted)]).length ((ns ++ [(⟨⟨some ⟨gk, 0, none⟩, len, len⟩, d⟩ : Noted)]).flatMap Noted.enc) := row_keep HROW4.out fun k hk => HK5.out k (by have := (row_at HROW4.out k hk).1; omega)
          have hE8 : W8.ownsRow B 110 33 (Sl.val l3.entries) (ns ++ [(⟨⟨some ⟨gk, 0, none⟩, len, len⟩, d⟩ : Noted)]).length ((ns ++ [(⟨⟨some ⟨gk, 0, none⟩, len, len⟩, d⟩ : Noted)]).flatMap Noted.enc) := by
            rw [he3, HL2E.out, HL1E.out]
            refine row_keep hrE5 fun k hk => ?_
            have hk2 := row_at hrE5 k hk
            rw [hk8 k (by omega), HK7.out k (by omega), heap6.out k hk2.2.1 (row_ne hrE5 HROW5.out (by decide) k hk)]
          have hS8 : W8.ownsRow B 3 1 (Sl.val S6) (ix s ++ [ns.length]).length ((ix s ++ [ns.length]).map fun j => .int .i64 (j : Nat)) := by
            rw [← HLN.out]
            refine row_keep HROW6.out fun k hk => ?_
            have hk2 := row_at HROW6.out k hk
            rw [hk8 k (by omega), HK7.out k (by omega)]
          have hsh : (Sl.val sh).ownBlock = (Sl.val l.shelves[s]).ownBlock := by rw [HSH.out]
          have hgkE : (Sl.val l.entries).ownBlock ≠ some gk := fun e => by have := (row_at HL.out.rowE gk e).2.1; omega
          have hgkS : (Sl.val sh).ownBlock ≠ some gk := fun e => by rw [hsh] at e; have := (row_at (HL.out.rowS s hs) gk e).2.1; omega
          refine ⟨hb8, hf8, ?_, by simp, ?_, ?_, ?_, ?_, ?_⟩
          · refine HL3.out.noted hs (S' := S6) (kept := ⟨some ⟨gk, 0, none⟩, len, len⟩) (d := d) (xs := xs) (fun k h1 h2 h3 h4 => hk0 k h1 (by omega) h3 (by rw [hsh]; exact h4)) l3 hE8 hS8 ?_ ?_ (by omega) ?_ HS0.out (fun k hk hx => by have h1 : k = gk := (Option.some.inj hk).symm; have h2 := HXW.out k hx; omega) hfn hfs
            · rcases HBK6.out with e | e
              · exact .inl (by rw [e, hsh])
              · exact .inr fun k hk => by rw [e] at hk; have := Option.some.inj hk; omega
            · exact HO3.out.keep fun k hk => by
                have : k = gk := (Option.some.inj hk).symm
                subst this
                exact hk0 k (by omega) (by omega) hgkE hgkS
            · rw [hs3, HL2E.out, HL1E.out]
          · have := HE3.out.size; omega
          · rw [ho1, HOS7.out.1, HOS6.out.1, HOS5.out.1, HG4.out.os]; exact HE3.out.os
          · rw [ho2, HOS7.out.2.1, HOS6.out.2.1, HOS5.out.2.1, HG4.out.tape]; exact HE3.out.tape
          · rw [ho3, HOS7.out.2.2, HOS6.out.2.2, HOS5.out.2.2, HG4.out.output]; exact HE3.out.output
          · intro k h1 h2 h3 h4
            rw [hk0 k (by have := HE3.out.size; omega) h2 h3 (by rw [hsh]; exact h4 s hs)]
            exact HE3.out.block k h1
        clear hb6 hf6 hb5 hf5 hent5 hset6
        have hend : (xs, d) ∉ A.es ∧ (r < 0 → A.es.findIdx? (fun e => decide (e.2 = d)) = none) ∧ (¬ r < 0 → ∃ j : Nat, r = (j : Int) ∧ A.es.findIdx? (fun e => decide (e.2 = d)) = some j) := by
          have h1 := HSC.out
          rw [HL.out.ixs s hs, HS0.out] at h1
          have h2 := HM.out
          rw [HL.out.ixs s hs, HS0.out] at h2
          exact Scan.end h1 h2
        have hlf : l2.found = A.fd.isSome := by rw [HL2E.out, HL1E.out]; exact HL.out.fnd
        have hls : ∀ i j, A.fd = some (i, j) → l2.first = (i : Int) ∧ l2.second = (j : Int) := by rw [HL2E.out, HL1E.out]; exact HL.out.fst
        obtain ⟨hnin, hno, hyes⟩ := hend
        have HNI : Hid ((xs, d) ∉ A.es) := hnin
        have HLS : Hid (∀ i j, A.fd = some (i, j) → l2.first = (i : Int) ∧ l2.second = (j : Int)) := hls
        have HLF : Hid (l2.found = A.fd.isSome) := hlf
        clear hnin hls hlf
        by_cases hrn : r < 0
        · have hq : (A', k') = (⟨A.es ++ [(xs, d)], A.fd⟩, 1) := HA.out.symm.trans (noteA_fresh HNI.out (hno hrn))
          injection hq with hq1 hq2
          subst hq1 hq2
          clear hno hyes
          go_wp2_with fail
          go_ret
          exact ⟨l2, _, _, rfl, FIN.out l2 W7 _ HLF.out HLS.out rfl rfl hb7 hf7 (Nat.le_refl _) (fun k _ => rfl) rfl rfl rfl⟩
        · obtain ⟨rj, hrj, hfi⟩ := hyes hrn
          have HRJ : Hid (r = (rj : Int)) := hrj
          have HFI : Hid (A.es.findIdx? (fun e => decide (e.2 = d)) = some rj) := hfi
          clear hno hyes hrj hfi
          by_cases hfo : l2.found = true
          · have hq : (A', k') = (⟨A.es ++ [(xs, d)], A.fd⟩, 3) := HA.out.symm.trans (noteA_old HNI.out HFI.out (HLF.out.symm.trans hfo))
            injection hq with hq1 hq2
            subst hq1 hq2
            go_wp2_with fail
            go_ret
            have HH := FIN.out l2 W7 _ HLF.out HLS.out rfl rfl hb7 hf7 (Nat.le_refl _) (fun k _ => rfl) rfl rfl rfl
            first | exact ⟨_, _, _, rfl, HH⟩ | exact ⟨rfl, _, _, _, HH⟩ | exact ⟨_, _, _, HH⟩
          · have hfo' : l2.found = false := by simpa using hfo
            have hnon : A.fd = none := by
              have := HLF.out
              rw [hfo'] at this
              cases hh : A.fd with
              | none => rfl
              | some q => rw [hh] at this; simp at this
            have hq : (A', k') = (⟨A.es ++ [(xs, d)], some (rj, A.es.length)⟩, 3) := HA.out.symm.trans (noteA_met HNI.out HFI.out hnon)
            injection hq with hq1 hq2
            subst hq1 hq2
            clear hnon
            go_wp2_with fail
            go_ret
            have HH := FIN.out { l2 with found := true, first := r, second := (ln : Int) } (put W7 b (splice C o ({ l2 with found := true, first := r, second := (ln : Int) } : GLog).enc)) (some (rj, A.es.length)) rfl (fun i j hij => by injection hij with hij; injection hij with h1 h2; subst h1 h2; exact ⟨HRJ.out, by show (ln : Int) = _; rw [HLN.out, HL.out.clen]⟩) rfl rfl (by rw [blk_put, if_pos rfl, hb7]; rfl) (by rw [free_put]; exact hf7) (by rw [size_put]; exact Nat.le_refl _) (fun k hk => by rw [heap_put, if_neg hk]) rfl rfl rfl
            first | exact ⟨_, _, _, rfl, HH⟩ | exact ⟨rfl, _, _, _, HH⟩ | exact ⟨_, _, _, HH⟩
    · skip
      go_simp
      refine hK.out _ _ ⟨(blk_alloc _ _ _ _).trans ((if_neg (by omega)).trans hx3), trivial⟩ (fun hHeld => ?_)
      clear hK K
      try simp only [Act.put, List.setIfInBounds_toArray, List.set_cons_zero, List.set_cons_succ]
      have hbW : b ≠ W3.heap.size := by omega
      refine wpAnyH_ready (rs := [4]) (by kernel_rfl) (by simp) ?_
      refine AllReadyH.cons (o := ⟨_, _, _, _, _, _⟩) rfl (fun K hK => ?_) AllReadyH.nil
      go_simp
      refine hK.out _ _ ?_ (fun hHeld => ?_)
      · exact hHeld
      clear hK K
      try simp only [Act.put, List.setIfInBounds_toArray, List.set_cons_zero, List.set_cons_succ]
      refine wpAnyH_ready (rs := [9]) (by kernel_rfl) (by simp) ?_
      refine AllReadyH.cons (o := ⟨_, _, _, _, _, _⟩) rfl (fun K hK => ?_) AllReadyH.nil
      rw [if_pos (by rfl)]
      obtain ⟨E4, W4, hrun4, hrow4, hg4, hbk4, hEl⟩ := append110 ((W3.alloc (.cells (Noted.enc (⟨⟨some ⟨gk, 0, none⟩, len, len⟩, d⟩ : Noted)).toArray 110)).drew) B l.entries ns (⟨⟨some ⟨gk, 0, none⟩, len, len⟩, d⟩ : Noted) W3.heap.size
        (row_keep HL3.out.rowE fun k hk => heap_alloc_old _ _ (row_at HL3.out.rowE k hk).2.1) (show (W3.alloc _).heap[W3.heap.size]? = _ by rw [heap_alloc, if_pos rfl]) (by show B ≤ (W3.alloc _).heap.size; rw [World.size_alloc]; omega) hns 32
      refine wp_append_run _ _ 32 rfl _ _ _ _ rfl rfl hrun4 ?_
      have HROW4 : Hid (W4.ownsRow B 110 33 (Sl.val E4) (ns ++ [(⟨⟨some ⟨gk, 0, none⟩, len, len⟩, d⟩ : Noted)]).length ((ns ++ [(⟨⟨some ⟨gk, 0, none⟩, len, len⟩, d⟩ : Noted)]).flatMap Noted.enc)) := hrow4
      have HG4 : Hid (((W3.alloc (.cells (Noted.enc (⟨⟨some ⟨gk, 0, none⟩, len, len⟩, d⟩ : Noted)).toArray 110)).drew).grownBy W4 (Sl.val l.entries).ownBlock) := hg4
      have HBK4 : Hid ((Sl.val E4).ownBlock = (Sl.val l.entries).ownBlock ∨ (Sl.val E4).ownBlock = some ((W3.alloc (.cells (Noted.enc (⟨⟨some ⟨gk, 0, none⟩, len, len⟩, d⟩ : Noted)).toArray 110)).drew).heap.size) := hbk4
      have hsz4a : ((W3.alloc (.cells (Noted.enc (⟨⟨some ⟨gk, 0, none⟩, len, len⟩, d⟩ : Noted)).toArray 110)).drew).heap.size = W3.heap.size + 1 := by show (W3.alloc _).heap.size = _; rw [World.size_alloc]
      have heap4 : Hid (∀ k, k < W3.heap.size → (Sl.val l.entries).ownBlock ≠ some k → W4.heap[k]? = W3.heap[k]?) := fun k hk hne => (HG4.out.block k (by omega) (Ne.symm hne)).trans (heap_alloc_old _ _ hk)
      have hbne : (Sl.val l.entries).ownBlock ≠ some b := fun e => by have := (row_at HL3.out.rowE b e).1; omega
      have hxne : (Sl.val l.entries).ownBlock ≠ some bx := fun e => by have := (row_at HL.out.rowE bx e).2.1; omega
      have hb4 : blk W4 b = some (splice C o l.enc) := (blk_of_heap (heap4.out b (by omega) hbne)).trans hb3
      have hf4 : free W4 b = true := (free_of_heap (heap4.out b (by omega) hbne)).trans hf3
      have hx4 : blk W4 bx = some (arr u8v d) := (blk_of_heap (heap4.out bx (by omega) hxne)).trans hx3
      have hsz4 : W3.heap.size + 1 ≤ W4.heap.size := by have := HG4.out.size; omega
      have HEL : Hid (E4.len = ns.length + 1) := hEl
      have hev : Sl.val E4 = .slice E4.a E4.len E4.cap := rfl
      clear hrow4 hg4 hbk4 hrun4 hbne hxne hsz4a hEl hev
      refine hK.out _ _ ⟨hx4, trivial⟩ (fun hHeld => ?_)
      clear hK K
      try simp only [Act.put, List.setIfInBounds_toArray, List.set_cons_zero, List.set_cons_succ]
      refine wpAnyH_take (i := 10) (oi := ⟨_, _, _, _, _, _⟩) (v := ?_) rfl (by kernel_rfl) (by kernel_rfl) (by kernel_rfl) (fun _ _ _ h => h) (Or.inl ⟨by rfl, ?_⟩) (by assumption) ?_
      rotate_left 1
      · intro W' hSw
        obtain ⟨hS1, hS2⟩ := hSw
        go_simp
        try with_reducible rfl
      try simp only [Act.put, List.setIfInBounds_toArray, List.set_cons_zero, List.set_cons_succ]
      refine wpAnyH_take (i := 11) (oi := ⟨_, _, _, _, _, _⟩) (v := ?_) rfl (by kernel_rfl) (by kernel_rfl) (by kernel_rfl) (fun _ _ _ h => h) (Or.inl ⟨by rfl, ?_⟩) (by assumption) ?_
      rotate_left 1
      · intro W' hSw
        obtain ⟨hS1, hS2⟩ := hSw
        go_simp
        try with_reducible rfl
      try simp only [Act.put, List.setIfInBounds_toArray, List.set_cons_zero, List.set_cons_succ]
      refine wpAnyH_ready (rs := [12]) (by kernel_rfl) (by simp) ?_
      refine AllReadyH.cons (o := ⟨_, _, _, _, _, _⟩) rfl (fun K hK => ?_) AllReadyH.nil
      go_simp
      refine hK.out _ _ ?_ (fun hHeld => ?_)
      · refine ⟨?_, trivial⟩
        rw [blk_put, if_neg (by omega)]; exact hx4
      clear hK K
      try simp only [Act.put, List.setIfInBounds_toArray, List.set_cons_zero, List.set_cons_succ]
      refine wpAnyH_done (by kernel_rfl) ?_ _
      go_wp2_with fail
      obtain ⟨l1, hl1⟩ : ∃ l1 : GLog, l1 = { l with entries := E4 } := ⟨_, rfl⟩
      refine wp_world (fun W5 => blk W5 b = some (splice C o l1.enc) ∧ free W5 b = true ∧ W4.heap.size ≤ W5.heap.size ∧ Hid (∀ k, k ≠ b → W5.heap[k]? = W4.heap[k]?) ∧ Hid (W5.os = W4.os ∧ W5.tape = W4.tape ∧ W5.output = W4.output)) ⟨?_, ?_, ?_, ?_, ?_⟩ ?_
      · rw [hl1, blk_put, if_pos rfl, hb4]; rfl
      · rw [free_put]; exact hf4
      · rw [size_put]; exact Nat.le_refl _
      · intro k hk
        rw [heap_put, if_neg hk]
      · exact ⟨rfl, rfl, rfl⟩
      rintro W5 ⟨hb5, hf5, hsz5, HK5, HOS5⟩
      clear hb4 hf4 hx4 hb3 hf3 hx3
      have hl1s : l1.shelves[s] = sh := by rw [hl1, HSH.out]
      have HL1E : Hid (l1 = { l with entries := E4 }) := hl1
      have hget5 : nth (splice C o l1.enc) (o + 1 + s) = some (Sl.val sh) := by
        rw [Nat.add_assoc, nth_splice (by rw [GLog.length_enc]; omega) (by rw [GLog.length_enc]; omega), GLog.shelves_at l1 s hs, hl1s]
      obtain ⟨ln, hln⟩ : ∃ ln, ln = ns.length := ⟨_, rfl⟩
      have hent5 : nth (splice C o l1.enc) o = some (.slice E4.a (ln + 1) E4.cap) := by
        rw [nth_splice0 (by rw [GLog.length_enc]; omega) (by rw [GLog.length_enc]; omega), GLog.entries_get, hl1]
        show some (Value.slice E4.a E4.len E4.cap) = _
        rw [HEL.out, hln]
      have hl5 : (splice C o l1.enc).length = C.length := length_splice _ _ _ (by rw [GLog.length_enc]; omega)
      have hwr : IntKind.i64.wrap (((ln + 1 : Nat) : Int) - 1) = (ln : Int) := by rw [wraps_i64 _ (by omega) (by omega)]; omega
      have hwr' : IntKind.i64.wrap ((ln : Int) + 1 - 1) = (ln : Int) := by rw [wraps_i64 _ (by omega) (by omega)]; omega
      have hwr2 : IntKind.i64.wrap (ln : Int) = (ln : Int) := wraps_i64 _ (by omega) (by omega)
      have HLN : Hid (ln = ns.length) := hln
      have hlns : ln ≤ 70000 := by omega
      clear hl1 hln hl1s hget hsv
      refine wp_region_held_drew (S := fun W' => (∃ D, blk W' b = some D ∧ nth D o = some (.slice E4.a (ln + 1) E4.cap)) ∧ True) (by kernel_rfl) ⟨⟨_, hb5, hent5⟩, trivial⟩ (fun hHeld => ?_)
      refine wpAnyH_take (i := 0) (oi := ⟨_, _, _, _, _, _⟩) (v := ?_) rfl (by kernel_rfl) (by kernel_rfl) (by kernel_rfl) (fun _ _ _ h => h) (Or.inl ⟨by rfl, ?_⟩) (by assumption) ?_
      rotate_left 1
      · intro W' hSw
        obtain ⟨⟨D', hS1, hS3⟩, hS2⟩ := hSw
        go_simp
        try with_reducible rfl
      try simp only [Act.put, List.setIfInBounds_toArray, List.set_cons_zero, List.set_cons_succ]
      refine wpAnyH_take (i := 1) (oi := ⟨_, _, _, _, _, _⟩) (v := ?_) rfl (by kernel_rfl) (by kernel_rfl) (by kernel_rfl) (fun _ _ _ h => h) (Or.inl ⟨by rfl, ?_⟩) (by assumption) ?_
      rotate_left 1
      · intro W' hSw
        obtain ⟨⟨D', hS1, hS3⟩, hS2⟩ := hSw
        go_simp
        try with_reducible rfl
      try simp only [Act.put, List.setIfInBounds_toArray, List.set_cons_zero, List.set_cons_succ]
      refine wpAnyH_take (i := 2) (oi := ⟨_, _, _, _, _, _⟩) (v := ?_) rfl (by kernel_rfl) (by kernel_rfl) (by kernel_rfl) (fun _ _ _ h => h) (Or.inl ⟨by rfl, ?_⟩) (by assumption) ?_
      rotate_left 1
      · intro W' hSw
        obtain ⟨⟨D', hS1, hS3⟩, hS2⟩ := hSw
        go_simp
        try with_reducible rfl
      try simp only [Act.put, List.setIfInBounds_toArray, List.set_cons_zero, List.set_cons_succ]
      refine wpAnyH_take (i := 3) (oi := ⟨_, _, _, _, _, _⟩) (v := ?_) rfl (by kernel_rfl) (by kernel_rfl) (by kernel_rfl) (fun _ _ _ h => h) (Or.inl ⟨by rfl, ?_⟩) (by assumption) ?_
      rotate_left 1
      · intro W' hSw
        obtain ⟨⟨D', hS1, hS3⟩, hS2⟩ := hSw
        go_simp
        try with_reducible rfl
      try simp only [Act.put, List.setIfInBounds_toArray, List.set_cons_zero, List.set_cons_succ]
      refine wpAnyH_take (i := 4) (oi := ⟨_, _, _, _, _, _⟩) (v := ?_) rfl (by kernel_rfl) (by kernel_rfl) (by kernel_rfl) (fun _ _ _ h => h) (Or.inl ⟨by rfl, ?_⟩) (by assumption) ?_
      rotate_left 1
      · intro W' hSw
        obtain ⟨⟨D', hS1, hS3⟩, hS2⟩ := hSw
        go_simp
        try with_reducible rfl
      try simp only [Act.put, List.setIfInBounds_toArray, List.set_cons_zero, List.set_cons_succ]
      refine wpAnyH_take (i := 5) (oi := ⟨_, _, _, _, _, _⟩) (v := ?_) rfl (by kernel_rfl) (by kernel_rfl) (by kernel_rfl) (fun _ _ _ h => h) (Or.inl ⟨by rfl, ?_⟩) (by assumption) ?_
      rotate_left 1
      · intro W' hSw
        obtain ⟨⟨D', hS1, hS3⟩, hS2⟩ := hSw
        go_simp
        try with_reducible rfl
      try simp only [Act.put, List.setIfInBounds_toArray, List.set_cons_zero, List.set_cons_succ]
      refine wpAnyH_take (i := 6) (oi := ⟨_, _, _, _, _, _⟩) (v := ?_) rfl (by kernel_rfl) (by kernel_rfl) (by kernel_rfl) (fun _ _ _ h => h) (Or.inl ⟨by rfl, ?_⟩) (by assumption) ?_
      rotate_left 1
      · intro W' hSw
        obtain ⟨⟨D', hS1, hS3⟩, hS2⟩ := hSw
        go_simp
        try with_reducible rfl
      try simp only [Act.put, List.setIfInBounds_toArray, List.set_cons_zero, List.set_cons_succ]
      refine wpAnyH_take (i := 8) (oi := ⟨_, _, _, _, _, _⟩) (v := ?_) rfl (by kernel_rfl) (by kernel_rfl) (by kernel_rfl) (fun _ _ _ h => h) (Or.inl ⟨by rfl, ?_⟩) (by assumption) ?_
      rotate_left 1
      · intro W' hSw
        obtain ⟨⟨D', hS1, hS3⟩, hS2⟩ := hSw
        go_simp
        try with_reducible rfl
      try simp only [Act.put, List.setIfInBounds_toArray, List.set_cons_zero, List.set_cons_succ]
      refine wpAnyH_take (i := 9) (oi := ⟨_, _, _, _, _, _⟩) (v := ?_) rfl (by kernel_rfl) (by kernel_rfl) (by kernel_rfl) (fun _ _ _ h => h) (Or.inl ⟨by rfl, ?_⟩) (by assumption) ?_
      rotate_left 1
      · intro W' hSw
        obtain ⟨⟨D', hS1, hS3⟩, hS2⟩ := hSw
        go_simp
        try with_reducible rfl
      try simp only [Act.put, List.setIfInBounds_toArray, List.set_cons_zero, List.set_cons_succ]
      refine wpAnyH_take (i := 10) (oi := ⟨_, _, _, _, _, _⟩) (v := ?_) rfl (by kernel_rfl) (by kernel_rfl) (by kernel_rfl) (fun _ _ _ h => h) (Or.inl ⟨by rfl, ?_⟩) (by assumption) ?_
      rotate_left 1
      · intro W' hSw
        obtain ⟨⟨D', hS1, hS3⟩, hS2⟩ := hSw
        go_simp
        try with_reducible rfl
      try simp only [Act.put, List.setIfInBounds_toArray, List.set_cons_zero, List.set_cons_succ]
      refine wpAnyH_take (i := 11) (oi := ⟨_, _, _, _, _, _⟩) (v := ?_) rfl (by kernel_rfl) (by kernel_rfl) (by kernel_rfl) (fun _ _ _ h => h) (Or.inl ⟨by rfl, ?_⟩) (by assumption) ?_
      rotate_left 1
      · intro W' hSw
        obtain ⟨⟨D', hS1, hS3⟩, hS2⟩ := hSw
        go_simp
        try with_reducible rfl
      try simp only [Act.put, List.setIfInBounds_toArray, List.set_cons_zero, List.set_cons_succ]
      refine wpAnyH_take (i := 12) (oi := ⟨_, _, _, _, _, _⟩) (v := ?_) rfl (by kernel_rfl) (by kernel_rfl) (by kernel_rfl) (fun _ _ _ h => h) (Or.inl ⟨by rfl, ?_⟩) (by assumption) ?_
      rotate_left 1
      · intro W' hSw
        obtain ⟨⟨D', hS1, hS3⟩, hS2⟩ := hSw
        go_simp
        try with_reducible rfl
      try simp only [Act.put, List.setIfInBounds_toArray, List.set_cons_zero, List.set_cons_succ]
      refine wpAnyH_take (i := 13) (oi := ⟨_, _, _, _, _, _⟩) (v := ?_) rfl (by kernel_rfl) (by kernel_rfl) (by kernel_rfl) (fun _ _ _ h => h) (Or.inl ⟨by rfl, ?_⟩) (by assumption) ?_
      rotate_left 1
      · intro W' hSw
        obtain ⟨⟨D', hS1, hS3⟩, hS2⟩ := hSw
        go_simp
        try with_reducible rfl
      try simp only [Act.put, List.setIfInBounds_toArray, List.set_cons_zero, List.set_cons_succ]
      refine wpAnyH_take (i := 16) (oi := ⟨_, _, _, _, _, _⟩) (v := ?_) rfl (by kernel_rfl) (by kernel_rfl) (by kernel_rfl) (fun _ _ _ h => h) (Or.inl ⟨by rfl, ?_⟩) (by assumption) ?_
      rotate_left 1
      · intro W' hSw
        obtain ⟨⟨D', hS1, hS3⟩, hS2⟩ := hSw
        go_simp
        try with_reducible rfl
      try simp only [Act.put, List.setIfInBounds_toArray, List.set_cons_zero, List.set_cons_succ]
      refine wpAnyH_take (i := 17) (oi := ⟨_, _, _, _, _, _⟩) (v := ?_) rfl (by kernel_rfl) (by kernel_rfl) (by kernel_rfl) (fun _ _ _ h => h) (Or.inl ⟨by rfl, ?_⟩) (by assumption) ?_
      rotate_left 1
      · intro W' hSw
        obtain ⟨⟨D', hS1, hS3⟩, hS2⟩ := hSw
        go_simp
        try with_reducible rfl
      try simp only [Act.put, List.setIfInBounds_toArray, List.set_cons_zero, List.set_cons_succ]
      refine wpAnyH_ready (rs := [7, 14]) (by kernel_rfl) (by simp) ?_
      refine AllReadyH.cons (o := ⟨_, _, _, _, _, _⟩) rfl (fun K hK => ?_) (AllReadyH.cons (o := ⟨_, _, _, _, _, _⟩) rfl (fun K hK => ?_) AllReadyH.nil)
      · skip
        go_simp
        refine hK.out _ _ hHeld (fun hHeld => ?_)
        clear hK K
        try simp only [Act.put, List.setIfInBounds_toArray, List.set_cons_zero, List.set_cons_succ]
        refine wpAnyH_ready (rs := [14]) (by kernel_rfl) (by simp) ?_
        refine AllReadyH.cons (o := ⟨_, _, _, _, _, _⟩) rfl (fun K hK => ?_) AllReadyH.nil
        go_simp
        refine hK.out _ _ ?_ (fun hHeld => ?_)
        · exact ⟨⟨_, (blk_alloc _ _ _ _).trans ((if_neg (by omega)).trans hb5), hent5⟩, trivial⟩
        clear hK K
        try simp only [Act.put, List.setIfInBounds_toArray, List.set_cons_zero, List.set_cons_succ]
        refine wpAnyH_ready (rs := [15]) (by kernel_rfl) (by simp) ?_
        refine AllReadyH.cons (o := ⟨_, _, _, _, _, _⟩) rfl (fun K hK => ?_) AllReadyH.nil
        rw [if_pos (by rfl)]
        have hrow5 : W5.ownsRow B 3 1 (Sl.val sh) (ix s).length ((ix s).map fun j => .int .i64 (j : Nat)) := by
          have h0 := HL3.out.rowS s hs
          rw [← HSH.out] at h0
          refine row_keep h0 fun k hk => ?_
          have hk2 := row_at h0 k hk
          rw [HK5.out k (by omega), heap4.out k hk2.2.1 (row_ne h0 HL3.out.rowE (by decide) k hk)]
        obtain ⟨S6, W6, hrun6, hrow6, hg6, hbk6⟩ := append3 ((W5.alloc (.cells #[.int .i64 (ln : Nat)] 3)).drew) B sh (ix s) ln W5.heap.size
          (row_keep hrow5 fun k hk => heap_alloc_old _ _ (row_at hrow5 k hk).2.1) (show (W5.alloc _).heap[W5.heap.size]? = _ by rw [heap_alloc, if_pos rfl]) (by show B ≤ (W5.alloc _).heap.size; rw [World.size_alloc]; omega) (by have := HL.out.few s hs; omega) 33
        refine wp_append_run _ _ 33 rfl _ _ _ _ rfl rfl hrun6 ?_
        have hsz6a : ((W5.alloc (.cells #[.int .i64 (ln : Nat)] 3)).drew).heap.size = W5.heap.size + 1 := by show (W5.alloc _).heap.size = _; rw [World.size_alloc]
        have hsh3 : ∀ k, (Sl.val sh).ownBlock = some k → B ≤ k ∧ k < W3.heap.size := fun k hk => by
          have h0 := HL3.out.rowS s hs
          rw [← HSH.out] at h0
          have := row_at h0 k hk
          exact ⟨this.1, this.2.1⟩
        have heap6 : Hid (∀ k, k < W5.heap.size → (Sl.val sh).ownBlock ≠ some k → W6.heap[k]? = W5.heap[k]?) := fun k hk hne => (hg6.block k (by omega) (Ne.symm hne)).trans (heap_alloc_old _ _ hk)
        have hb6 : blk W6 b = some (splice C o l1.enc) := (blk_of_heap (heap6.out b (by omega) (fun e => by have := (hsh3 b e).1; omega))).trans hb5
        have hf6 : free W6 b = true := (free_of_heap (heap6.out b (by omega) (fun e => by have := (hsh3 b e).1; omega))).trans hf5
        have hsz6 : W5.heap.size + 1 ≤ W6.heap.size := by have := hg6.size; omega
        have HROW6 : Hid (W6.ownsRow B 3 1 (Sl.val S6) (ix s ++ [ln]).length ((ix s ++ [ln]).map fun j => .int .i64 (j : Nat))) := hrow6
        have HBK6 : Hid ((Sl.val S6).ownBlock = (Sl.val sh).ownBlock ∨ (Sl.val S6).ownBlock = some (W5.heap.size + 1)) := by
          rcases hbk6 with e | e
          · exact .inl e
          · exact .inr (by rw [e, hsz6a])
        have HOS6 : Hid (W6.os = W5.os ∧ W6.tape = W5.tape ∧ W6.output = W5.output) := ⟨hg6.os, hg6.tape, hg6.output⟩
        have HROW5 : Hid (W5.ownsRow B 3 1 (Sl.val sh) (ix s).length ((ix s).map fun j => .int .i64 (j : Nat))) := hrow5
        obtain ⟨l2, hl2⟩ : ∃ l2 : GLog, l2 = { l1 with shelves := l1.shelves.set s S6 hs } := ⟨_, rfl⟩
        have hset6 : splice (splice C o l1.enc) (o + 1 + s) [Sl.val S6] = splice C o l2.enc := by
          rw [Nat.add_assoc, splice_splice (by rw [GLog.length_enc]; omega) (by rw [GLog.length_enc]; simp; omega), GLog.shelves_put l1 s S6 hs, hl2]
        have HL2E : Hid (l2 = { l1 with shelves := l1.shelves.set s S6 hs }) := hl2
        have hsv6 : cellsV (Sl.val S6) = [Sl.val S6] := rfl
        clear hrow6 hg6 hbk6 hrun6 hsz6a hl2
        refine hK.out _ _ ⟨⟨_, hb6, hent5⟩, trivial⟩ (fun hHeld => ?_)
        clear hK K
        try simp only [Act.put, List.setIfInBounds_toArray, List.set_cons_zero, List.set_cons_succ]
        refine wpAnyH_take (i := 18) (oi := ⟨_, _, _, _, _, _⟩) (v := ?_) rfl (by kernel_rfl) (by kernel_rfl) (by kernel_rfl) (fun _ _ _ h => h) (Or.inl ⟨by rfl, ?_⟩) (by assumption) ?_
        rotate_left 1
        · intro W' hSw
          clear hSw
          go_simp
          try with_reducible rfl
        try simp only [Act.put, List.setIfInBounds_toArray, List.set_cons_zero, List.set_cons_succ]
        refine wpAnyH_ready (rs := [19]) (by kernel_rfl) (by simp) ?_
        refine AllReadyH.cons (o := ⟨_, _, _, _, _, _⟩) rfl (fun K hK => ?_) AllReadyH.nil
        go_simp
        refine hK.out _ _ ?_ (fun hHeld => ?_)
        · refine ⟨⟨splice C o l2.enc, ?_, ?_⟩, trivial⟩
          · rw [blk_put, if_pos rfl, hb6, ← hset6]; rfl
          · rw [nth_splice0 (by rw [GLog.length_enc]; omega) (by rw [GLog.length_enc]; omega), GLog.entries_get, HL2E.out, HL1E.out]
            show some (Value.slice E4.a E4.len E4.cap) = _
            rw [HEL.out, HLN.out]
        clear hK K
        try simp only [Act.put, List.setIfInBounds_toArray, List.set_cons_zero, List.set_cons_succ]
        refine wpAnyH_done (by kernel_rfl) ?_ _
        have hev2 : Sl.val l2.entries = .slice E4.a (ln + 1) E4.cap := by
          rw [HL2E.out, HL1E.out]
          show Value.slice E4.a E4.len E4.cap = _
          rw [HEL.out, HLN.out]
        go_upto_region 16 with fail
        refine wp_world (fun W7 => blk W7 b = some (splice C o l2.enc) ∧ free W7 b = true ∧ W6.heap.size ≤ W7.heap.size ∧ Hid (∀ k, k ≠ b → W7.heap[k]? = W6.heap[k]?) ∧ Hid (W7.os = W6.os ∧ W7.tape = W6.tape ∧ W7.output = W6.output)) ⟨?_, ?_, ?_, ?_, ?_⟩ ?_
        · rw [blk_put, if_pos rfl, hb6]; rfl
        · rw [free_put]; exact hf6
        · rw [size_put]; exact Nat.le_refl _
        · intro k hk
          rw [heap_put, if_neg hk]
        · exact ⟨rfl, rfl, rfl⟩
        rintro W7 ⟨hb7, hf7, hsz7, HK7, HOS7⟩
        have FIN : Hid (∀ (l3 : GLog) (W8 : World) (fd : Option (Nat × Nat)), l3.found = fd.isSome → (∀ i j, fd = some (i, j) → l3.first = (i : Int) ∧ l3.second = (j : Int)) → l3.entries = l2.entries → l3.shelves = l2.shelves → blk W8 b = some (splice C o l3.enc) → free W8 b = true → W7.heap.size ≤ W8.heap.size → (∀ k, k ≠ b → W8.heap[k]? = W7.heap[k]?) → W8.os = W7.os → W8.tape = W7.tape → W8.output = W7.output →
            NoteOut B b o C l ns w W8 l3 (ns ++ [(⟨⟨some ⟨gk, 0, none⟩, len, len⟩, d⟩ : Noted)]) (fun t => if t = s then ix s ++ [ns.length] else ix t) ⟨A.es ++ [(xs, d)], fd⟩ X) := by
          intro l3 W8 fd hfn hfs he3 hs3 hb8 hf8 hsz8 hk8 ho1 ho2 ho3
          have hk0 : ∀ k, k < W3.heap.size → k ≠ b → (Sl.val l.entries).ownBlock ≠ some k → (Sl.val sh).ownBlock ≠ some k → W8.heap[k]? = W3.heap[k]? := fun k h1 h2 h3 h4 => by
            rw [hk8 k h2, HK7.out k h2, heap6.out k (by omega) h4, HK5.out k h2, heap4.out k h1 h3]
          have hrE5 : W5.ownsRow B 110 33 (Sl.val E4) (ns ++ [(⟨⟨some ⟨gk, 0, none⟩, len, len⟩, d⟩ : Noted)]).length ((ns ++ [(⟨⟨some ⟨gk, 0, none⟩, len, len⟩, d⟩ : Noted)]).flatMap Noted.enc) := row_keep HROW4.out fun k hk => HK5.out k (by have := (row_at HROW4.out k hk).1; omega)
          have hE8 : W8.ownsRow B 110 33 (Sl.val l3.entries) (ns ++ [(⟨⟨some ⟨gk, 0, none⟩, len, len⟩, d⟩ : Noted)]).length ((ns ++ [(⟨⟨some ⟨gk, 0, none⟩, len, len⟩, d⟩ : Noted)]).flatMap Noted.enc) := by
            rw [he3, HL2E.out, HL1E.out]
            refine row_keep hrE5 fun k hk => ?_
            have hk2 := row_at hrE5 k hk
            rw [hk8 k (by omega), HK7.out k (by omega), heap6.out k hk2.2.1 (row_ne hrE5 HROW5.out (by decide) k hk)]
          have hS8 : W8.ownsRow B 3 1 (Sl.val S6) (ix s ++ [ns.length]).length ((ix s ++ [ns.length]).map fun j => .int .i64 (j : Nat)) := by
            rw [← HLN.out]
            refine row_keep HROW6.out fun k hk => ?_
            have hk2 := row_at HROW6.out k hk
            rw [hk8 k (by omega), HK7.out k (by omega)]
          have hsh : (Sl.val sh).ownBlock = (Sl.val l.shelves[s]).ownBlock := by rw [HSH.out]
          have hgkE : (Sl.val l.entries).ownBlock ≠ some gk := fun e => by have := (row_at HL.out.rowE gk e).2.1; omega
          have hgkS : (Sl.val sh).ownBlock ≠ some gk := fun e => by rw [hsh] at e; have := (row_at (HL.out.rowS s hs) gk e).2.1; omega
          refine ⟨hb8, hf8, ?_, by simp, ?_, ?_, ?_, ?_, ?_⟩
          · refine HL3.out.noted hs (S' := S6) (kept := ⟨some ⟨gk, 0, none⟩, len, len⟩) (d := d) (xs := xs) (fun k h1 h2 h3 h4 => hk0 k h1 (by omega) h3 (by rw [hsh]; exact h4)) l3 hE8 hS8 ?_ ?_ (by omega) ?_ HS0.out (fun k hk hx => by have h1 : k = gk := (Option.some.inj hk).symm; have h2 := HXW.out k hx; omega) hfn hfs
            · rcases HBK6.out with e | e
              · exact .inl (by rw [e, hsh])
              · exact .inr fun k hk => by rw [e] at hk; have := Option.some.inj hk; omega
            · exact HO3.out.keep fun k hk => by
                have : k = gk := (Option.some.inj hk).symm
                subst this
                exact hk0 k (by omega) (by omega) hgkE hgkS
            · rw [hs3, HL2E.out, HL1E.out]
          · have := HE3.out.size; omega
          · rw [ho1, HOS7.out.1, HOS6.out.1, HOS5.out.1, HG4.out.os]; exact HE3.out.os
          · rw [ho2, HOS7.out.2.1, HOS6.out.2.1, HOS5.out.2.1, HG4.out.tape]; exact HE3.out.tape
          · rw [ho3, HOS7.out.2.2, HOS6.out.2.2, HOS5.out.2.2, HG4.out.output]; exact HE3.out.output
          · intro k h1 h2 h3 h4
            rw [hk0 k (by have := HE3.out.size; omega) h2 h3 (by rw [hsh]; exact h4 s hs)]
            exact HE3.out.block k h1
        clear hb6 hf6 hb5 hf5 hent5 hset6
        have hend : (xs, d) ∉ A.es ∧ (r < 0 → A.es.findIdx? (fun e => decide (e.2 = d)) = none) ∧ (¬ r < 0 → ∃ j : Nat, r = (j : Int) ∧ A.es.findIdx? (fun e => decide (e.2 = d)) = some j) := by
          have h1 := HSC.out
          rw [HL.out.ixs s hs, HS0.out] at h1
          have h2 := HM.out
          rw [HL.out.ixs s hs, HS0.out] at h2
          exact Scan.end h1 h2
        have hlf : l2.found = A.fd.isSome := by rw [HL2E.out, HL1E.out]; exact HL.out.fnd
        have hls : ∀ i j, A.fd = some (i, j) → l2.first = (i : Int) ∧ l2.second = (j : Int) := by rw [HL2E.out, HL1E.out]; exact HL.out.fst
        obtain ⟨hnin, hno, hyes⟩ := hend
        have HNI : Hid ((xs, d) ∉ A.es) := hnin
        have HLS : Hid (∀ i j, A.fd = some (i, j) → l2.first = (i : Int) ∧ l2.second = (j : Int)) := hls
        have HLF : Hid (l2.found = A.fd.isSome) := hlf
        clear hnin hls hlf
        by_cases hrn : r < 0
        · have hq : (A', k') = (⟨A.es ++ [(xs, d)], A.fd⟩, 1) := HA.out.symm.trans (noteA_fresh HNI.out (hno hrn))
          injection hq with hq1 hq2
          subst hq1 hq2
          clear hno hyes
          go_wp2_with fail
          go_ret
          exact ⟨l2, _, _, rfl, FIN.out l2 W7 _ HLF.out HLS.out rfl rfl hb7 hf7 (Nat.le_refl _) (fun k _ => rfl) rfl rfl rfl⟩
        · obtain ⟨rj, hrj, hfi⟩ := hyes hrn
          have HRJ : Hid (r = (rj : Int)) := hrj
          have HFI : Hid (A.es.findIdx? (fun e => decide (e.2 = d)) = some rj) := hfi
          clear hno hyes hrj hfi
          by_cases hfo : l2.found = true
          · have hq : (A', k') = (⟨A.es ++ [(xs, d)], A.fd⟩, 3) := HA.out.symm.trans (noteA_old HNI.out HFI.out (HLF.out.symm.trans hfo))
            injection hq with hq1 hq2
            subst hq1 hq2
            go_wp2_with fail
            go_ret
            have HH := FIN.out l2 W7 _ HLF.out HLS.out rfl rfl hb7 hf7 (Nat.le_refl _) (fun k _ => rfl) rfl rfl rfl
            first | exact ⟨_, _, _, rfl, HH⟩ | exact ⟨rfl, _, _, _, HH⟩ | exact ⟨_, _, _, HH⟩
          · have hfo' : l2.found = false := by simpa using hfo
            have hnon : A.fd = none := by
              have := HLF.out
              rw [hfo'] at this
              cases hh : A.fd with
              | none => rfl
              | some q => rw [hh] at this; simp at this
            have hq : (A', k') = (⟨A.es ++ [(xs, d)], some (rj, A.es.length)⟩, 3) := HA.out.symm.trans (noteA_met HNI.out HFI.out hnon)
            injection hq with hq1 hq2
            subst hq1 hq2
            clear hnon
            go_wp2_with fail
            go_ret
            have HH := FIN.out { l2 with found := true, first := r, second := (ln : Int) } (put W7 b (splice C o ({ l2 with found := true, first := r, second := (ln : Int) } : GLog).enc)) (some (rj, A.es.length)) rfl (fun i j hij => by injection hij with hij; injection hij with h1 h2; subst h1 h2; exact ⟨HRJ.out, by show (ln : Int) = _; rw [HLN.out, HL.out.clen]⟩) rfl rfl (by rw [blk_put, if_pos rfl, hb7]; rfl) (by rw [free_put]; exact hf7) (by rw [size_put]; exact Nat.le_refl _) (fun k hk => by rw [heap_put, if_neg hk]) rfl rfl rfl
            first | exact ⟨_, _, _, rfl, HH⟩ | exact ⟨rfl, _, _, _, HH⟩ | exact ⟨_, _, _, HH⟩
      · skip
        go_simp
        refine hK.out _ _ ⟨⟨_, (blk_alloc _ _ _ _).trans ((if_neg (by omega)).trans hb5), hent5⟩, trivial⟩ (fun hHeld => ?_)
        clear hK K
        try simp only [Act.put, List.setIfInBounds_toArray, List.set_cons_zero, List.set_cons_succ]
        have hbW : b ≠ W5.heap.size := by omega
        refine wpAnyH_ready (rs := [7]) (by kernel_rfl) (by simp) ?_
        refine AllReadyH.cons (o := ⟨_, _, _, _, _, _⟩) rfl (fun K hK => ?_) AllReadyH.nil
        go_simp
        refine hK.out _ _ ?_ (fun hHeld => ?_)
        · exact hHeld
        clear hK K
        try simp only [Act.put, List.setIfInBounds_toArray, List.set_cons_zero, List.set_cons_succ]
        refine wpAnyH_ready (rs := [15]) (by kernel_rfl) (by simp) ?_
        refine AllReadyH.cons (o := ⟨_, _, _, _, _, _⟩) rfl (fun K hK => ?_) AllReadyH.nil
        rw [if_pos (by rfl)]
        have hrow5 : W5.ownsRow B 3 1 (Sl.val sh) (ix s).length ((ix s).map fun j => .int .i64 (j : Nat)) := by
          have h0 := HL3.out.rowS s hs
          rw [← HSH.out] at h0
          refine row_keep h0 fun k hk => ?_
          have hk2 := row_at h0 k hk
          rw [HK5.out k (by omega), heap4.out k hk2.2.1 (row_ne h0 HL3.out.rowE (by decide) k hk)]
        obtain ⟨S6, W6, hrun6, hrow6, hg6, hbk6⟩ := append3 ((W5.alloc (.cells #[.int .i64 (ln : Nat)] 3)).drew) B sh (ix s) ln W5.heap.size
          (row_keep hrow5 fun k hk => heap_alloc_old _ _ (row_at hrow5 k hk).2.1) (show (W5.alloc _).heap[W5.heap.size]? = _ by rw [heap_alloc, if_pos rfl]) (by show B ≤ (W5.alloc _).heap.size; rw [World.size_alloc]; omega) (by have := HL.out.few s hs; omega) 33
        refine wp_append_run _ _ 33 rfl _ _ _ _ rfl rfl hrun6 ?_
        have hsz6a : ((W5.alloc (.cells #[.int .i64 (ln : Nat)] 3)).drew).heap.size = W5.heap.size + 1 := by show (W5.alloc _).heap.size = _; rw [World.size_alloc]
        have hsh3 : ∀ k, (Sl.val sh).ownBlock = some k → B ≤ k ∧ k < W3.heap.size := fun k hk => by
          have h0 := HL3.out.rowS s hs
          rw [← HSH.out] at h0
          have := row_at h0 k hk
          exact ⟨this.1, this.2.1⟩
        have heap6 : Hid (∀ k, k < W5.heap.size → (Sl.val sh).ownBlock ≠ some k → W6.heap[k]? = W5.heap[k]?) := fun k hk hne => (hg6.block k (by omega) (Ne.symm hne)).trans (heap_alloc_old _ _ hk)
        have hb6 : blk W6 b = some (splice C o l1.enc) := (blk_of_heap (heap6.out b (by omega) (fun e => by have := (hsh3 b e).1; omega))).trans hb5
        have hf6 : free W6 b = true := (free_of_heap (heap6.out b (by omega) (fun e => by have := (hsh3 b e).1; omega))).trans hf5
        have hsz6 : W5.heap.size + 1 ≤ W6.heap.size := by have := hg6.size; omega
        have HROW6 : Hid (W6.ownsRow B 3 1 (Sl.val S6) (ix s ++ [ln]).length ((ix s ++ [ln]).map fun j => .int .i64 (j : Nat))) := hrow6
        have HBK6 : Hid ((Sl.val S6).ownBlock = (Sl.val sh).ownBlock ∨ (Sl.val S6).ownBlock = some (W5.heap.size + 1)) := by
          rcases hbk6 with e | e
          · exact .inl e
          · exact .inr (by rw [e, hsz6a])
        have HOS6 : Hid (W6.os = W5.os ∧ W6.tape = W5.tape ∧ W6.output = W5.output) := ⟨hg6.os, hg6.tape, hg6.output⟩
        have HROW5 : Hid (W5.ownsRow B 3 1 (Sl.val sh) (ix s).length ((ix s).map fun j => .int .i64 (j : Nat))) := hrow5
        obtain ⟨l2, hl2⟩ : ∃ l2 : GLog, l2 = { l1 with shelves := l1.shelves.set s S6 hs } := ⟨_, rfl⟩
        have hset6 : splice (splice C o l1.enc) (o + 1 + s) [Sl.val S6] = splice C o l2.enc := by
          rw [Nat.add_assoc, splice_splice (by rw [GLog.length_enc]; omega) (by rw [GLog.length_enc]; simp; omega), GLog.shelves_put l1 s S6 hs, hl2]
        have HL2E : Hid (l2 = { l1 with shelves := l1.shelves.set s S6 hs }) := hl2
        have hsv6 : cellsV (Sl.val S6) = [Sl.val S6] := rfl
        clear hrow6 hg6 hbk6 hrun6 hsz6a hl2
        refine hK.out _ _ ⟨⟨_, hb6, hent5⟩, trivial⟩ (fun hHeld => ?_)
        clear hK K
        try simp only [Act.put, List.setIfInBounds_toArray, List.set_cons_zero, List.set_cons_succ]
        refine wpAnyH_take (i := 18) (oi := ⟨_, _, _, _, _, _⟩) (v := ?_) rfl (by kernel_rfl) (by kernel_rfl) (by kernel_rfl) (fun _ _ _ h => h) (Or.inl ⟨by rfl, ?_⟩) (by assumption) ?_
        rotate_left 1
        · intro W' hSw
          clear hSw
          go_simp
          try with_reducible rfl
        try simp only [Act.put, List.setIfInBounds_toArray, List.set_cons_zero, List.set_cons_succ]
        refine wpAnyH_ready (rs := [19]) (by kernel_rfl) (by simp) ?_
        refine AllReadyH.cons (o := ⟨_, _, _, _, _, _⟩) rfl (fun K hK => ?_) AllReadyH.nil
        go_simp
        refine hK.out _ _ ?_ (fun hHeld => ?_)
        · refine ⟨⟨splice C o l2.enc, ?_, ?_⟩, trivial⟩
          · rw [blk_put, if_pos rfl, hb6, ← hset6]; rfl
          · rw [nth_splice0 (by rw [GLog.length_enc]; omega) (by rw [GLog.length_enc]; omega), GLog.entries_get, HL2E.out, HL1E.out]
            show some (Value.slice E4.a E4.len E4.cap) = _
            rw [HEL.out, HLN.out]
        clear hK K
        try simp only [Act.put, List.setIfInBounds_toArray, List.set_cons_zero, List.set_cons_succ]
        refine wpAnyH_done (by kernel_rfl) ?_ _
        have hev2 : Sl.val l2.entries = .slice E4.a (ln + 1) E4.cap := by
          rw [HL2E.out, HL1E.out]
          show Value.slice E4.a E4.len E4.cap = _
          rw [HEL.out, HLN.out]
        go_upto_region 16 with fail
        refine wp_world (fun W7 => blk W7 b = some (splice C o l2.enc) ∧ free W7 b = true ∧ W6.heap.size ≤ W7.heap.size ∧ Hid (∀ k, k ≠ b → W7.heap[k]? = W6.heap[k]?) ∧ Hid (W7.os = W6.os ∧ W7.tape = W6.tape ∧ W7.output = W6.output)) ⟨?_, ?_, ?_, ?_, ?_⟩ ?_
        · rw [blk_put, if_pos rfl, hb6]; rfl
        · rw [free_put]; exact hf6
        · rw [size_put]; exact Nat.le_refl _
        · intro k hk
          rw [heap_put, if_neg hk]
        · exact ⟨rfl, rfl, rfl⟩
        rintro W7 ⟨hb7, hf7, hsz7, HK7, HOS7⟩
        have FIN : Hid (∀ (l3 : GLog) (W8 : World) (fd : Option (Nat × Nat)), l3.found = fd.isSome → (∀ i j, fd = some (i, j) → l3.first = (i : Int) ∧ l3.second = (j : Int)) → l3.entries = l2.entries → l3.shelves = l2.shelves → blk W8 b = some (splice C o l3.enc) → free W8 b = true → W7.heap.size ≤ W8.heap.size → (∀ k, k ≠ b → W8.heap[k]? = W7.heap[k]?) → W8.os = W7.os → W8.tape = W7.tape → W8.output = W7.output →
            NoteOut B b o C l ns w W8 l3 (ns ++ [(⟨⟨some ⟨gk, 0, none⟩, len, len⟩, d⟩ : Noted)]) (fun t => if t = s then ix s ++ [ns.length] else ix t) ⟨A.es ++ [(xs, d)], fd⟩ X) := by
          intro l3 W8 fd hfn hfs he3 hs3 hb8 hf8 hsz8 hk8 ho1 ho2 ho3
          have hk0 : ∀ k, k < W3.heap.size → k ≠ b → (Sl.val l.entries).ownBlock ≠ some k → (Sl.val sh).ownBlock ≠ some k → W8.heap[k]? = W3.heap[k]? := fun k h1 h2 h3 h4 => by
            rw [hk8 k h2, HK7.out k h2, heap6.out k (by omega) h4, HK5.out k h2, heap4.out k h1 h3]
          have hrE5 : W5.ownsRow B 110 33 (Sl.val E4) (ns ++ [(⟨⟨some ⟨gk, 0, none⟩, len, len⟩, d⟩ : Noted)]).length ((ns ++ [(⟨⟨some ⟨gk, 0, none⟩, len, len⟩, d⟩ : Noted)]).flatMap Noted.enc) := row_keep HROW4.out fun k hk => HK5.out k (by have := (row_at HROW4.out k hk).1; omega)
          have hE8 : W8.ownsRow B 110 33 (Sl.val l3.entries) (ns ++ [(⟨⟨some ⟨gk, 0, none⟩, len, len⟩, d⟩ : Noted)]).length ((ns ++ [(⟨⟨some ⟨gk, 0, none⟩, len, len⟩, d⟩ : Noted)]).flatMap Noted.enc) := by
            rw [he3, HL2E.out, HL1E.out]
            refine row_keep hrE5 fun k hk => ?_
            have hk2 := row_at hrE5 k hk
            rw [hk8 k (by omega), HK7.out k (by omega), heap6.out k hk2.2.1 (row_ne hrE5 HROW5.out (by decide) k hk)]
          have hS8 : W8.ownsRow B 3 1 (Sl.val S6) (ix s ++ [ns.length]).length ((ix s ++ [ns.length]).map fun j => .int .i64 (j : Nat)) := by
            rw [← HLN.out]
            refine row_keep HROW6.out fun k hk => ?_
            have hk2 := row_at HROW6.out k hk
            rw [hk8 k (by omega), HK7.out k (by omega)]
          have hsh : (Sl.val sh).ownBlock = (Sl.val l.shelves[s]).ownBlock := by rw [HSH.out]
          have hgkE : (Sl.val l.entries).ownBlock ≠ some gk := fun e => by have := (row_at HL.out.rowE gk e).2.1; omega
          have hgkS : (Sl.val sh).ownBlock ≠ some gk := fun e => by rw [hsh] at e; have := (row_at (HL.out.rowS s hs) gk e).2.1; omega
          refine ⟨hb8, hf8, ?_, by simp, ?_, ?_, ?_, ?_, ?_⟩
          · refine HL3.out.noted hs (S' := S6) (kept := ⟨some ⟨gk, 0, none⟩, len, len⟩) (d := d) (xs := xs) (fun k h1 h2 h3 h4 => hk0 k h1 (by omega) h3 (by rw [hsh]; exact h4)) l3 hE8 hS8 ?_ ?_ (by omega) ?_ HS0.out (fun k hk hx => by have h1 : k = gk := (Option.some.inj hk).symm; have h2 := HXW.out k hx; omega) hfn hfs
            · rcases HBK6.out with e | e
              · exact .inl (by rw [e, hsh])
              · exact .inr fun k hk => by rw [e] at hk; have := Option.some.inj hk; omega
            · exact HO3.out.keep fun k hk => by
                have : k = gk := (Option.some.inj hk).symm
                subst this
                exact hk0 k (by omega) (by omega) hgkE hgkS
            · rw [hs3, HL2E.out, HL1E.out]
          · have := HE3.out.size; omega
          · rw [ho1, HOS7.out.1, HOS6.out.1, HOS5.out.1, HG4.out.os]; exact HE3.out.os
          · rw [ho2, HOS7.out.2.1, HOS6.out.2.1, HOS5.out.2.1, HG4.out.tape]; exact HE3.out.tape
          · rw [ho3, HOS7.out.2.2, HOS6.out.2.2, HOS5.out.2.2, HG4.out.output]; exact HE3.out.output
          · intro k h1 h2 h3 h4
            rw [hk0 k (by have := HE3.out.size; omega) h2 h3 (by rw [hsh]; exact h4 s hs)]
            exact HE3.out.block k h1
        clear hb6 hf6 hb5 hf5 hent5 hset6
        have hend : (xs, d) ∉ A.es ∧ (r < 0 → A.es.findIdx? (fun e => decide (e.2 = d)) = none) ∧ (¬ r < 0 → ∃ j : Nat, r = (j : Int) ∧ A.es.findIdx? (fun e => decide (e.2 = d)) = some j) := by
          have h1 := HSC.out
          rw [HL.out.ixs s hs, HS0.out] at h1
          have h2 := HM.out
          rw [HL.out.ixs s hs, HS0.out] at h2
          exact Scan.end h1 h2
        have hlf : l2.found = A.fd.isSome := by rw [HL2E.out, HL1E.out]; exact HL.out.fnd
        have hls : ∀ i j, A.fd = some (i, j) → l2.first = (i : Int) ∧ l2.second = (j : Int) := by rw [HL2E.out, HL1E.out]; exact HL.out.fst
        obtain ⟨hnin, hno, hyes⟩ := hend
        have HNI : Hid ((xs, d) ∉ A.es) := hnin
        have HLS : Hid (∀ i j, A.fd = some (i, j) → l2.first = (i : Int) ∧ l2.second = (j : Int)) := hls
        have HLF : Hid (l2.found = A.fd.isSome) := hlf
        clear hnin hls hlf
        by_cases hrn : r < 0
        · have hq : (A', k') = (⟨A.es ++ [(xs, d)], A.fd⟩, 1) := HA.out.symm.trans (noteA_fresh HNI.out (hno hrn))
          injection hq with hq1 hq2
          subst hq1 hq2
          clear hno hyes
          go_wp2_with fail
          go_ret
          exact ⟨l2, _, _, rfl, FIN.out l2 W7 _ HLF.out HLS.out rfl rfl hb7 hf7 (Nat.le_refl _) (fun k _ => rfl) rfl rfl rfl⟩
        · obtain ⟨rj, hrj, hfi⟩ := hyes hrn
          have HRJ : Hid (r = (rj : Int)) := hrj
          have HFI : Hid (A.es.findIdx? (fun e => decide (e.2 = d)) = some rj) := hfi
          clear hno hyes hrj hfi
          by_cases hfo : l2.found = true
          · have hq : (A', k') = (⟨A.es ++ [(xs, d)], A.fd⟩, 3) := HA.out.symm.trans (noteA_old HNI.out HFI.out (HLF.out.symm.trans hfo))
            injection hq with hq1 hq2
            subst hq1 hq2
            go_wp2_with fail
            go_ret
            have HH := FIN.out l2 W7 _ HLF.out HLS.out rfl rfl hb7 hf7 (Nat.le_refl _) (fun k _ => rfl) rfl rfl rfl
            first | exact ⟨_, _, _, rfl, HH⟩ | exact ⟨rfl, _, _, _, HH⟩ | exact ⟨_, _, _, HH⟩
          · have hfo' : l2.found = false := by simpa using hfo
            have hnon : A.fd = none := by
              have := HLF.out
              rw [hfo'] at this
              cases hh : A.fd with
              | none => rfl
              | some q => rw [hh] at this; simp at this
            have hq : (A', k') = (⟨A.es ++ [(xs, d)], some (rj, A.es.length)⟩, 3) := HA.out.symm.trans (noteA_met HNI.out HFI.out hnon)
            injection hq with hq1 hq2
            subst hq1 hq2
            clear hnon
            go_wp2_with fail
            go_ret
            have HH := FIN.out { l2 with found := true, first := r, second := (ln : Int) } (put W7 b (splice C o ({ l2 with found := true, first := r, second := (ln : Int) } : GLog).enc)) (some (rj, A.es.length)) rfl (fun i j hij => by injection hij with hij; injection hij with h1 h2; subst h1 h2; exact ⟨HRJ.out, by show (ln : Int) = _; rw [HLN.out, HL.out.clen]⟩) rfl rfl (by rw [blk_put, if_pos rfl, hb7]; rfl) (by rw [free_put]; exact hf7) (by rw [size_put]; exact Nat.le_refl _) (fun k hk => by rw [heap_put, if_neg hk]) rfl rfl rfl
            first | exact ⟨_, _, _, rfl, HH⟩ | exact ⟨rfl, _, _, _, HH⟩ | exact ⟨_, _, _, HH⟩
end Go.Proofs.Qxb6500785a
