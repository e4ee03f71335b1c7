import Derived.Test.Qxb6500785aRoots
import Derived.Test.Qxb6500785aOwn2
import Derived.Test.Qxb6500785aKnown
import Derived.Deep.RegionHeld
import Derived.Deep.CutRange
import Derived.Laws.ResultCell
import Derived.Laws.Rows
set_option linter.unusedSimpArgs false
set_option linter.unusedVariables false
namespace Go.Proofs.Qxb6500785a
open Go.RowKit Go.Blk
attribute [local go_sem ↓] execOp_load execOp_store execOp_alloc
attribute [local go_sem] Try.ld24 Try.st24 Try.ld5 Try.st5 Try.ld3 Try.st3 Try.ld27 Try.st27 Try.ld32 Try.st32 Try.ld33 Try.st33 Try.ld4 Try.st4 Try.ld41 Try.st41 Try.ld40 Try.st40 Try.ld42 Try.st42 Try.ld47 Try.st47 Try.ld48 Try.st48 Try.ld57 Try.st57 Try.ld58 Try.st58 Try.ld2 Try.st2 Try.ld9 Try.st9 Try.ld12 Try.st12 Try.ld21 Try.st21 Try.ld22 Try.st22 Try.ld46 Try.st46 Try.ld83 Try.st83 Try.ld95 Try.st95 Try.ld99 Try.st99 Try.ld106 Try.st106 Try.ld108 Try.st108 Try.ld134 Try.st134 Try.ld25 Try.st25 Try.ld26 Try.st26 Try.ld34 Try.st34 Try.ld31 Try.st31 Try.ld30 Try.st30 Try.ld74 Try.st74 Try.ld96 Try.st96 Try.ld101 Try.st101 Try.ld115 Try.st115 Try.ld116 Try.st116 Try.ld120 Try.st120 Try.ld121 Try.st121 Try.ld122 Try.st122 Try.ld29 Try.st29 Try.ld36 Try.st36 Try.ld38 Try.st38 Try.ld44 Try.st44 Try.ld50 Try.st50 Try.ld60 Try.st60 Try.ld110 Try.st110 Try.al25 Try.al26 Try.al34 Try.al31 Try.al30 Try.al74 Try.al96 Try.al101 Try.al115 Try.al116 Try.al120 Try.al121 Try.al122 Try.al29 Try.al36 Try.al38 Try.al44 Try.al50 Try.al60 Try.al110
attribute [local go_sem] Hasher.length_enc Hasher.ok_enc Hasher.all_get Hasher.all_set Hasher.state_get Hasher.state_set Hasher.block_get Hasher.block_set Hasher.fill_get Hasher.fill_set Hasher.length_get Hasher.length_set GLog.length_enc GLog.ok_enc GLog.all_get GLog.all_set GLog.entries_get GLog.entries_set GLog.shelves_get GLog.shelves_set GLog.first_get GLog.first_set GLog.second_get GLog.second_set GLog.found_get GLog.found_set Player.length_enc Player.ok_enc Player.all_get Player.all_set Player.hand_get Player.hand_set Player.aside_get Player.aside_set Player.prev_get Player.prev_set Player.last_get Player.last_set Player.log_get Player.log_set Player.hand_state_get Player.hand_state_set Player.hand_block_get Player.hand_block_set Player.hand_fill_get Player.hand_fill_set Player.hand_length_get Player.hand_length_set Player.aside_state_get Player.aside_state_set Player.aside_block_get Player.aside_block_set Player.aside_fill_get Player.aside_fill_set Player.aside_length_get Player.aside_length_set Player.log_entries_get Player.log_entries_set Player.log_shelves_get Player.log_shelves_set Player.log_first_get Player.log_first_set Player.log_second_get Player.log_second_set Player.log_found_get Player.log_found_set GOp.length_enc GOp.ok_enc GOp.all_get GOp.all_set GOp.kind_get GOp.kind_set GOp.data_get GOp.data_set GOp.cut_get GOp.cut_set GOp.n_get GOp.n_set GOp.b_get GOp.b_set GOp.v_get GOp.v_set GOp.dom_get GOp.dom_set GOp.sum_get GOp.sum_set Answer.length_enc Answer.ok_enc Answer.all_get Answer.all_set Answer.code_get Answer.code_set Answer.sum_get Answer.sum_set Answer.len_get Answer.len_set Answer.mark_get Answer.mark_set Answer.noted_get Answer.noted_set Answer.collided_get Answer.collided_set GState.length_enc GState.ok_enc GState.all_get GState.all_set GState.hand_get GState.hand_set GState.aside_get GState.aside_set GState.prev_get GState.prev_set GState.last_get GState.last_set GState.inputs_get GState.inputs_set GState.sums_get GState.sums_set GState.collided_get GState.collided_set GState.older_get GState.older_set GState.younger_get GState.younger_set Noted.length_enc Noted.ok_enc Noted.all_get Noted.all_set Noted.input_get Noted.input_set Noted.sum_get Noted.sum_set
attribute [local go_sem] size_put size_ext blk_put free_put blk_alloc free_alloc blk_drew free_drew blk_ext free_ext lookOr_some putOr_some segAt_some cellAt_some storeIn_some put_put put_alloc_new length_arr ok_arr_u8 ok_arr_u32 ok_arr_u64 ok_arr_i64 ok_arr_sl cellsV_agg cellsV_int cellsV_bool cellsV_string cellsV_pointer cellsV_slice cellsV_sl ok_int ok_bool ok_string ok_pointer ok_slice ok_sl toList_arr seg_arr set_arr nth_splice nth_splice0 seg_splice seg_splice0 splice_splice splice_splice0 length_splice_if
attribute [local go_sem] w32_and w32_or w32_xor w32_add w32_or8 w32_not w8_and w8_or w8_xor w32_shr2 w32_shl2 w32_shr3 w32_shl3 w32_shr6 w32_shl6 w32_shr7 w32_shl7 w32_shr8 w32_shl8 w32_shr10 w32_shl10 w32_shr11 w32_shl11 w32_shr13 w32_shl13 w32_shr14 w32_shl14 w32_shr15 w32_shl15 w32_shr16 w32_shl16 w32_shr17 w32_shl17 w32_shr18 w32_shl18 w32_shr19 w32_shl19 w32_shr21 w32_shl21 w32_shr22 w32_shl22 w32_shr24 w32_shl24 w32_shr25 w32_shl25 w32_shr26 w32_shl26 w32_shr30 w32_shl30 w8_shl24 w8_shl16 w8_shl8 v32_add v32_byte w32_byte0 v8_shl24 v8_shl16 v8_shl8 v32_shr2 v32_shl2 v32_shr3 v32_shl3 v32_shr6 v32_shl6 v32_shr7 v32_shl7 v32_shr8 v32_shl8 v32_shr10 v32_shl10 v32_shr11 v32_shl11 v32_shr13 v32_shl13 v32_shr14 v32_shl14 v32_shr15 v32_shl15 v32_shr16 v32_shl16 v32_shr17 v32_shl17 v32_shr18 v32_shl18 v32_shr19 v32_shl19 v32_shr21 v32_shl21 v32_shr22 v32_shl22 v32_shr24 v32_shl24 v32_shr25 v32_shl25 v32_shr26 v32_shl26 v32_shr30 v32_shl30
attribute [local go_sem ↓] execOp_build
attribute [local go_sem] run_build_kv run_build_iv nth_arr_u32 put_arr_u32 nth_arr_u8 put_arr_u8 v32_of8 blk_drewN free_drewN put_drewN put_drew blk_raw free_raw
attribute [local go_sem ↓] execOp_slice execOp_copy
attribute [local go_sem] Try.sl40lo Try.sl40hi Try.sl26lo Try.sl26hi Try.sl26 Try.sl96lo Try.sl96hi Try.sl96 Try.sl31lo Try.sl31 Try.sl120 Try.sl121 Try.sl121lo Try.sl121hi Try.cp40 copyOr_some copyIn_some srcB_drew srcB_drewN srcB_raw length_bv one_bv
attribute [local go_sem] Hasher.length_zero
attribute [local go_sem] Try.cpv copyOrV_some
attribute [local go_sem ↓] execOp_index execOp_convert execOp_box execOp_convert9
attribute [local go_sem] index_hex box_run conv_bytes eq31
attribute [local go_sem] build31
attribute [local go_sem ↓] execOp_make
attribute [local go_sem] make40
def sbI (w : World) (a b : Option Addr) (len ca cb : Nat) (xs ys : List UInt8) (f : Nat → Value) (W : World) : Prop :=
  f 0 = .slice a len ca ∧ f 1 = .slice b len cb ∧ ∃ i : Nat, i ≤ len ∧ f 5 = .int .i64 (i : Nat) ∧ xs.take i = ys.take i ∧ ∃ n, W = w.drewN n
set_option maxRecDepth 20000 in
set_option maxHeartbeats 2000000 in
theorem sameBytes_any (w : World) (av av' : Nat) (a b : Option Addr) (la lb ca cb : Nat) (xs ys : List UInt8) (hX : BytesAt av w a la ca xs) (hY : BytesAt av' w b lb cb ys) :
    Calls Try.prog 77 #[.slice a la ca, .slice b lb cb] w fun e w' => e = .returned (.bool (decide (xs = ys))) ∧ ∃ n, w' = w.drewN n := by
  have HX : Hid (BytesAt av w a la ca xs) := hX
  have HY : Hid (BytesAt av' w b lb cb ys) := hY
  have hx := hX.1
  have hy := hY.1
  have hs : la < 4611686018427387904 := hX.2.2.1.1
  have hs' : lb < 4611686018427387904 := hY.2.2.1.1
  clear hX hY
  by_cases hll : la = lb
  · subst hll
    go_enter Try.func77, Try.ntmps77
    go_wp2_with fail
    refine wp_loop_f 26 (sbI w a b la ca cb xs ys) (fun f _ => la - (intOf (f 5)).toNat) rfl ?_ ?_
    · exact ⟨rfl, rfl, 0, by omega, rfl, rfl, 0, rfl⟩
    intro F W hrel
    obtain ⟨h0, h1, i, hi, h13, ht, n, rfl⟩ := hrel
    have H13 : Hid (F 5 = .int .i64 (i : Nat)) := h13
    have HT : Hid (xs.take i = ys.take i) := ht
    rw [frame26, h0, h1, h13]
    clear h0 h1 h13 ht
    by_cases hil : i < la
    · obtain ⟨bp, op, rfl, _, _, hcx⟩ := HX.out.cell (j := 0) (by omega)
      obtain ⟨bq, oq, rfl, _, _, hcy⟩ := HY.out.cell (j := 0) (by omega)
      have g1 := hcx i hil
      have g2 := hcy i hil
      obtain ⟨u, hu⟩ : ∃ u, xs.getD i 0 = u := ⟨_, rfl⟩
      obtain ⟨v, hv⟩ : ∃ v, ys.getD i 0 = v := ⟨_, rfl⟩
      rw [hu] at g1
      rw [hv] at g2
      have HU : Hid (xs.getD i 0 = u) := hu
      have HV : Hid (ys.getD i 0 = v) := hv
      clear hcx hcy hu hv
      have q0 : (0 : Int) ≤ (i : Int) := by omega
      have q1 : (i : Int) < (la : Int) := by omega
      have q2 : ((i : Int)).toNat = i := by omega
      by_cases huv : u = v
      · subst huv
        go_wp2_with fail
        go_quiet (fail)
        go_wp2_with fail
        refine ⟨rfl, rfl, ?_, ?_⟩
        · refine ⟨rfl, rfl, i + 1, by omega, ?_, take_next xs ys i HT.out (by omega) (by omega) (HU.out.trans HV.out.symm), n + nq, ?_⟩
          · show Value.int .i64 _ = _
            go_num
          · simp [World.drewN, Nat.add_assoc]
        · show la - (intOf (Value.int .i64 _)).toNat < la - (intOf (F 5)).toNat
          rw [H13.out]
          simp [intOf]; omega
      · have hne : ¬ w8 u = w8 v := fun h => huv (by unfold w8 at h; exact UInt8.toNat_inj.1 (by omega))
        go_wp2_with fail
        go_quiet (fail)
        go_wp2_with fail
        go_ret
        refine ⟨?_, n + nq, by simp [World.drewN, Nat.add_assoc]⟩
        have : ¬ xs = ys := by
          rintro rfl
          exact huv (HU.out.symm.trans HV.out)
        simp [this]
    · obtain rfl : i = la := by omega
      go_wp2_with fail
      go_ret
      refine ⟨?_, n, rfl⟩
      have := HT.out
      rw [List.take_of_length_le (by omega), List.take_of_length_le (by omega)] at this
      simp [this]
  · have hne : ¬ ((la : Int) = (lb : Int)) := by omega
    have hxy : ¬ xs = ys := fun h => hll (by rw [← hx, ← hy, h])
    go_enter Try.func77, Try.ntmps77
    go_wp2_with fail
    go_ret
    exact ⟨by simp [hxy], 0, rfl⟩

/-- What was noted: an input and its digest. -/
abbrev Ent := List UInt8 × Vector UInt8 32
/-- The plain log: what is held, oldest first, and the first pair that met. -/
structure ALog where
  es : List Ent
  fd : Option (Nat × Nat)
def inShelf (es : List Ent) (s j : Nat) : Bool := match es[j]? with
  | some e => decide (e.2[0].toNat % 64 = s)
  | none => false
def shelfOf (es : List Ent) (s : Nat) : List Nat := (List.range es.length).filter (inShelf es s)
def noteA (A : ALog) (x : Ent) : ALog × Int :=
  if x ∈ A.es then (A, 2) else
  match A.es.findIdx? (fun e => decide (e.2 = x.2)) with
  | none => (⟨A.es ++ [x], A.fd⟩, 1)
  | some r => (⟨A.es ++ [x], match A.fd with | some q => some q | none => some (r, A.es.length)⟩, 3)
theorem shelfOf_append (es : List Ent) (x : Ent) (t : Nat) : shelfOf (es ++ [x]) t = if t = x.2[0].toNat % 64 then shelfOf es t ++ [es.length] else shelfOf es t := by
  unfold shelfOf
  rw [List.length_append, List.length_singleton, List.range_succ, List.filter_append]
  have h1 : (List.range es.length).filter (inShelf (es ++ [x]) t) = (List.range es.length).filter (inShelf es t) := by
    apply List.filter_congr
    intro j hj
    have hj' : j < es.length := by simpa using hj
    unfold inShelf
    rw [List.getElem?_append_left hj']
  rw [h1]
  have h2 : inShelf (es ++ [x]) t es.length = decide (x.2[0].toNat % 64 = t) := by
    unfold inShelf
    rw [List.getElem?_append_right (Nat.le_refl _), Nat.sub_self]
    rfl
  by_cases e : t = x.2[0].toNat % 64
  · rw [if_pos e, List.filter_cons, if_pos (by rw [h2, decide_eq_true e.symm])]
    rfl
  · rw [if_neg e, List.filter_cons, if_neg (by rw [h2, decide_eq_false (fun q => e q.symm)]; decide)]
    simp
theorem mem_shelf {es : List Ent} {j : Nat} {e : Ent} (h : es[j]? = some e) : j ∈ shelfOf es (e.2[0].toNat % 64) := by
  have hj : j < es.length := (List.getElem?_eq_some_iff.1 h).1
  unfold shelfOf
  rw [List.mem_filter]
  exact ⟨by simpa using hj, by unfold inShelf; rw [h]; simp⟩
theorem shelf_sorted (es : List Ent) (s : Nat) : List.Pairwise (· < ·) (shelfOf es s) := (List.pairwise_lt_range (n := es.length)).filter _
def Scan (es : List Ent) (sh : List Nat) (x : Ent) (c : Nat) (r : Int) : Prop :=
  (∀ c' j e, c' < c → sh[c']? = some j → es[j]? = some e → e ≠ x) ∧
  ((r = -1 ∧ ∀ c' j e, c' < c → sh[c']? = some j → es[j]? = some e → e.2 ≠ x.2) ∨
   (∃ c0 j0 e0, c0 < c ∧ sh[c0]? = some j0 ∧ es[j0]? = some e0 ∧ e0.2 = x.2 ∧ r = (j0 : Int) ∧ ∀ c' j e, c' < c0 → sh[c']? = some j → es[j]? = some e → e.2 ≠ x.2))
theorem Scan.zero (es : List Ent) (sh : List Nat) (x : Ent) : Scan es sh x 0 (-1) :=
  ⟨fun c' _ _ h => by omega, .inl ⟨rfl, fun c' _ _ h => by omega⟩⟩
theorem Scan.all {es : List Ent} {sh : List Nat} {x : Ent} {c j : Nat} {e : Ent} {Q : Ent → Prop} (h : ∀ c' j e, c' < c → sh[c']? = some j → es[j]? = some e → Q e) (h1 : sh[c]? = some j) (h2 : es[j]? = some e) (h3 : Q e) : ∀ c' j e, c' < c + 1 → sh[c']? = some j → es[j]? = some e → Q e := by
  intro c' j' e' hc a b
  by_cases q : c' < c
  · exact h c' j' e' q a b
  · obtain rfl : c' = c := by omega
    rw [h1] at a
    obtain rfl := Option.some.inj a
    rw [h2] at b
    obtain rfl := Option.some.inj b
    exact h3
theorem Scan.skip {es : List Ent} {sh : List Nat} {x : Ent} {c : Nat} {r : Int} {j : Nat} {e : Ent} (h : Scan es sh x c r) (h1 : sh[c]? = some j) (h2 : es[j]? = some e) (h3 : e.2 ≠ x.2) : Scan es sh x (c + 1) r := by
  refine ⟨Scan.all (x := x) (Q := fun e => e ≠ x) h.1 h1 h2 (fun q => h3 (by rw [q])), ?_⟩
  rcases h.2 with ⟨a, b⟩ | ⟨c0, j0, e0, a1, a2, a3, a4, a5, a6⟩
  · exact .inl ⟨a, Scan.all (x := x) (Q := fun e => e.2 ≠ x.2) b h1 h2 h3⟩
  · exact .inr ⟨c0, j0, e0, by omega, a2, a3, a4, a5, a6⟩
theorem Scan.more {es : List Ent} {sh : List Nat} {x : Ent} {c : Nat} {r : Int} {j : Nat} {e : Ent} (h : Scan es sh x c r) (hr : ¬ r < 0) (h1 : sh[c]? = some j) (h2 : es[j]? = some e) (h3 : e.1 ≠ x.1) : Scan es sh x (c + 1) r := by
  refine ⟨Scan.all (x := x) (Q := fun e => e ≠ x) h.1 h1 h2 (fun q => h3 (by rw [q])), ?_⟩
  rcases h.2 with ⟨a, b⟩ | ⟨c0, j0, e0, a1, a2, a3, a4, a5, a6⟩
  · omega
  · exact .inr ⟨c0, j0, e0, by omega, a2, a3, a4, a5, a6⟩
theorem Scan.rival {es : List Ent} {sh : List Nat} {x : Ent} {c : Nat} {r : Int} {j : Nat} {e : Ent} (h : Scan es sh x c r) (hr : r < 0) (h1 : sh[c]? = some j) (h2 : es[j]? = some e) (h3 : e.1 ≠ x.1) (h4 : e.2 = x.2) : Scan es sh x (c + 1) (j : Int) := by
  refine ⟨Scan.all (x := x) (Q := fun e => e ≠ x) h.1 h1 h2 (fun q => h3 (by rw [q])), ?_⟩
  rcases h.2 with ⟨a, b⟩ | ⟨c0, j0, e0, a1, a2, a3, a4, a5, a6⟩
  · exact .inr ⟨c, j, e, by omega, h1, h2, h4, rfl, b⟩
  · omega
theorem Scan.end {es : List Ent} {x : Ent} {m : Nat} {r : Int} (h : Scan es (shelfOf es (x.2[0].toNat % 64)) x m r) (hm : m = (shelfOf es (x.2[0].toNat % 64)).length) :
    x ∉ es ∧ (r < 0 → es.findIdx? (fun e => decide (e.2 = x.2)) = none) ∧ (¬ r < 0 → ∃ j : Nat, r = (j : Int) ∧ es.findIdx? (fun e => decide (e.2 = x.2)) = some j) := by
  have hin : ∀ j e, es[j]? = some e → e.2 = x.2 → ∃ c', c' < m ∧ (shelfOf es (x.2[0].toNat % 64))[c']? = some j := by
    intro j e he hx
    have := mem_shelf he
    rw [hx] at this
    obtain ⟨c', hc', e'⟩ := List.getElem_of_mem this
    exact ⟨c', by omega, List.getElem?_eq_some_iff.2 ⟨hc', e'⟩⟩
  refine ⟨?_, ?_, ?_⟩
  · intro hx
    obtain ⟨j, hj, e⟩ := List.getElem_of_mem hx
    have he : es[j]? = some x := List.getElem?_eq_some_iff.2 ⟨hj, e⟩
    obtain ⟨c', h1, h2⟩ := hin j x he rfl
    exact h.1 c' j x h1 h2 he rfl
  · intro hr
    rcases h.2 with ⟨a, b⟩ | ⟨c0, j0, e0, a1, a2, a3, a4, a5, a6⟩
    · rw [List.findIdx?_eq_none_iff]
      intro e he
      obtain ⟨j, hj, q⟩ := List.getElem_of_mem he
      have he' : es[j]? = some e := List.getElem?_eq_some_iff.2 ⟨hj, q⟩
      refine decide_eq_false fun hx => ?_
      obtain ⟨c', h1, h2⟩ := hin j e he' hx
      exact b c' j e h1 h2 he' hx
    · omega
  · intro hr
    rcases h.2 with ⟨a, b⟩ | ⟨c0, j0, e0, a1, a2, a3, a4, a5, a6⟩
    · omega
    · refine ⟨j0, a5, ?_⟩
      have hj0 : j0 < es.length := (List.getElem?_eq_some_iff.1 a3).1
      rw [List.findIdx?_eq_some_iff_getElem]
      refine ⟨hj0, ?_, ?_⟩
      · have : es[j0] = e0 := (List.getElem?_eq_some_iff.1 a3).2
        rw [this]
        exact decide_eq_true a4
      · intro j hj
        simp only [decide_eq_true_eq]
        intro hx
        have he' : es[j]? = some es[j] := List.getElem?_eq_some_iff.2 ⟨by omega, rfl⟩
        obtain ⟨c', h1, h2⟩ := hin j _ he' hx
        have hlt : c' < c0 := by
          have hs := shelf_sorted es (x.2[0].toNat % 64)
          obtain ⟨k1, k2⟩ := List.getElem?_eq_some_iff.1 h2
          obtain ⟨k3, k4⟩ := List.getElem?_eq_some_iff.1 a2
          by_cases q : c' < c0
          · exact q
          · exfalso
            by_cases q2 : c' = c0
            · subst q2
              rw [k2] at k4
              omega
            · have := List.pairwise_iff_getElem.1 hs c0 c' k3 k1 (by omega)
              omega
        exact a6 c' j _ hlt h2 he' hx
structure LogOk (B : Nat) (W : World) (l : GLog) (ns : List Noted) (ix : Nat → List Nat) (A : ALog) (X : Nat → Prop) : Prop where
  rowE : W.ownsRow B 110 33 (Sl.val l.entries) ns.length (ns.flatMap Noted.enc)
  clen : A.es.length = ns.length
  con : ∀ (j : Nat) n e, ns[j]? = some n → A.es[j]? = some e → e.1.length ≤ 70000 ∧ OwnB B W (Sl.val n.input) e.1 ∧ n.sum = e.2 ∧ ∀ k, (Sl.val n.input).ownBlock = some k → ¬ X k
  rowS : ∀ s (h : s < 64), W.ownsRow B 3 1 (Sl.val l.shelves[s]) (ix s).length ((ix s).map fun j => .int .i64 (j : Nat))
  rng : ∀ s, s < 64 → ∀ j ∈ ix s, j < ns.length
  few : ∀ s, s < 64 → (ix s).length ≤ ns.length
  sep : ∀ s t (hs : s < 64) (ht : t < 64), s ≠ t → ∀ k, (Sl.val l.shelves[s]).ownBlock = some k → (Sl.val l.shelves[t]).ownBlock ≠ some k
  ixs : ∀ s, s < 64 → ix s = shelfOf A.es s
  fnd : l.found = A.fd.isSome
  fst : ∀ i j, A.fd = some (i, j) → l.first = (i : Int) ∧ l.second = (j : Int)
theorem LogOk.ent {B : Nat} {W : World} {l : GLog} {ns : List Noted} {ix : Nat → List Nat} {A : ALog} {X : Nat → Prop} (h : LogOk B W l ns ix A X) {j : Nat} (hj : j < ns.length) : ∃ e, A.es[j]? = some e ∧ e.1.length ≤ 70000 ∧ OwnB B W (Sl.val ns[j].input) e.1 ∧ ns[j].sum = e.2 := by
  have h1 := h.clen
  have h2 : A.es[j]? = some (A.es[j]'(by omega)) := List.getElem?_eq_some_iff.2 ⟨by omega, rfl⟩
  have h3 := h.con j _ _ (List.getElem?_eq_some_iff.2 ⟨hj, rfl⟩) h2
  exact ⟨_, h2, h3.1, h3.2.1, h3.2.2.1⟩
theorem LogOk.newX {B : Nat} {W : World} {l : GLog} {ns : List Noted} {ix : Nat → List Nat} {A : ALog} {X X' : Nat → Prop} (h : LogOk B W l ns ix A X) (hX : ∀ k, k < W.heap.size → X' k → X k) : LogOk B W l ns ix A X' := by
  refine ⟨h.rowE, h.clen, fun j n e hn he => ?_, h.rowS, h.rng, h.few, h.sep, h.ixs, h.fnd, h.fst⟩
  obtain ⟨h1, h2, h3, h4⟩ := h.con j n e hn he
  refine ⟨h1, h2, h3, fun k hk hx => h4 k hk (hX k ?_ hx)⟩
  obtain ⟨_, q | ⟨g, cap, cur, e1, e2, e3, _⟩⟩ := h2
  · rw [q.1] at hk; simp [Value.ownBlock] at hk
  · rw [e1] at hk
    simp [Value.ownBlock] at hk
    subst hk
    exact (Array.getElem?_eq_some_iff.1 e3).1
theorem LogOk.entry {B : Nat} {W : World} {l : GLog} {ns : List Noted} {ix : Nat → List Nat} {A : ALog} {X : Nat → Prop} (h : LogOk B W l ns ix A X) {j : Nat} (hj : j < ns.length) :
    ∃ g c C, l.entries = ⟨some ⟨g, 0, none⟩, ns.length, c⟩ ∧ blk W g = some C ∧ ns.length * 33 ≤ C.length ∧ nth C (j * 33) = some (Sl.val ns[j].input) ∧ seg C (j * 33 + 1) 32 = arr u8v ns[j].sum := by
  obtain ⟨_, h2 | ⟨g, cap, cur, e1, e2, e3, e4, e5, e6, e7⟩⟩ := h.rowE
  · exfalso; omega
  have hC := blk_mk e3
  have hlen : cur.toList.length = cap * 33 := by rw [Array.length_toList]; exact e6
  have hle : ns.length * 33 ≤ cap * 33 := Nat.mul_le_mul_right _ e4
  have hs0 := flat_seg Noted.enc 33 Noted.length_enc ns j hj
  have hsub : ∀ o m, o + m ≤ 33 → seg cur.toList (j * 33 + o) m = seg ns[j].enc o m := fun o m hom => by
    rw [← hs0, ← e7]
    unfold seg
    have hj33 : (j + 1) * 33 ≤ ns.length * 33 := Nat.mul_le_mul_right _ hj
    apply List.ext_getElem?
    intro i
    simp only [List.getElem?_take, List.getElem?_drop]
    by_cases hi : i < m
    · have a1 : o + i < 33 := by omega
      have a2 : j * 33 + (o + i) < ns.length * 33 := by omega
      simp [hi, a1, a2, Nat.add_assoc]
    · simp [hi]
  refine ⟨g, cap, cur.toList, ?_, hC, by omega, ?_, ?_⟩
  · cases hl : l.entries with
    | mk a len c =>
      rw [hl] at e1
      simp only [Sl.val] at e1
      injection e1 with q1 q2 q3
      rw [q1, q2, q3]
  · have h1 := hsub 0 1 (by omega)
    have h2 := Noted.input_get ns[j]
    unfold nth at h2 ⊢
    unfold seg at h1
    have h3 := congrArg (fun l => l[0]?) h1
    simp only [List.getElem?_take, List.getElem?_drop, Nat.add_zero] at h3
    simp only [Nat.lt_add_one, if_true, Nat.zero_add, List.drop_zero, List.getElem?_take] at h3
    rw [← h2]
    exact h3
  · rw [hsub 1 32 (by omega)]
    exact Noted.sum_get ns[j]
theorem LogOk.shelf {B : Nat} {W : World} {l : GLog} {ns : List Noted} {ix : Nat → List Nat} {A : ALog} {X : Nat → Prop} (h : LogOk B W l ns ix A X) {s c : Nat} (hs : s < 64) (hc : c < (ix s).length) :
    ∃ g k C, l.shelves[s] = ⟨some ⟨g, 0, none⟩, (ix s).length, k⟩ ∧ blk W g = some C ∧ nth C c = some (.int .i64 ((ix s)[c] : Nat)) := by
  obtain ⟨_, h2 | ⟨g, cap, cur, e1, e2, e3, e4, e5, e6, e7⟩⟩ := h.rowS s hs
  · exfalso; omega
  refine ⟨g, cap, cur.toList, ?_, blk_mk e3, ?_⟩
  · cases hl : l.shelves[s] with
    | mk a len c =>
      rw [hl] at e1
      simp only [Sl.val] at e1
      injection e1 with q1 q2 q3
      rw [q1, q2, q3]
  · rw [Nat.mul_one] at e7
    have h3 := congrArg (fun l => l[c]?) e7
    simp only [List.getElem?_take, hc, if_true] at h3
    unfold nth
    rw [h3]
    simp [hc]
theorem LogOk.grow {B : Nat} {W W' : World} {l : GLog} {ns : List Noted} {ix : Nat → List Nat} {A : ALog} {X : Nat → Prop} (h : LogOk B W l ns ix A X) (he : W.Extends W') : LogOk B W' l ns ix A X := by
  have hrow : ∀ {e size v n xs}, W.ownsRow B e size v n xs → W'.ownsRow B e size v n xs := fun hv => by
    obtain ⟨h1, h2 | ⟨g, cap, cur, e1, e2, e3, e4⟩⟩ := hv
    · exact ⟨h1, .inl h2⟩
    · exact ⟨h1, .inr ⟨g, cap, cur, e1, e2, by rw [he.block g (Array.getElem?_eq_some_iff.1 e3).1]; exact e3, e4⟩⟩
  exact ⟨hrow h.rowE, h.clen, fun j n e hn hj => by obtain ⟨h1, h2, h3, h4⟩ := h.con j n e hn hj; exact ⟨h1, h2.mono he.block, h3, h4⟩, fun s hs => hrow (h.rowS s hs), h.rng, h.few, h.sep, h.ixs, h.fnd, h.fst⟩
theorem drewN_zero (W : World) : W.drewN 0 = W := rfl
theorem row_keep {B : Nat} {W W' : World} {e : TypeId} {size : Nat} {v : Value} {n : Nat} {xs : List Value} (h : W.ownsRow B e size v n xs) (hw : ∀ k, v.ownBlock = some k → W'.heap[k]? = W.heap[k]?) : W'.ownsRow B e size v n xs := by
  obtain ⟨h1, h2 | ⟨g, cap, cur, e1, e2, e3, e4⟩⟩ := h
  · exact ⟨h1, .inl h2⟩
  · exact ⟨h1, .inr ⟨g, cap, cur, e1, e2, by rw [hw g (by rw [e1]; rfl)]; exact e3, e4⟩⟩
theorem row_at {B : Nat} {W : World} {e : TypeId} {size : Nat} {v : Value} {n : Nat} {xs : List Value} (h : W.ownsRow B e size v n xs) (k : Nat) (hk : v.ownBlock = some k) : B ≤ k ∧ k < W.heap.size ∧ ∃ cur fz, W.heap[k]? = some (.cells cur e fz) := by
  obtain ⟨h1, h2 | ⟨g, cap, cur, e1, e2, e3, e4⟩⟩ := h
  · rw [h2.1] at hk; simp [Value.ownBlock] at hk
  · rw [e1] at hk
    simp [Value.ownBlock] at hk
    subst hk
    exact ⟨e2, (Array.getElem?_eq_some_iff.1 e3).1, cur, _, e3⟩
theorem row_ne {B B' : Nat} {W : World} {e e' : TypeId} {size size' : Nat} {v v' : Value} {n n' : Nat} {xs xs' : List Value} (h : W.ownsRow B e size v n xs) (h' : W.ownsRow B' e' size' v' n' xs') (hne : e ≠ e') (k : Nat) (hk : v.ownBlock = some k) : v'.ownBlock ≠ some k := by
  intro hk'
  obtain ⟨_, _, c1, f1, h1⟩ := row_at h k hk
  obtain ⟨_, _, c2, f2, h2⟩ := row_at h' k hk'
  rw [h1] at h2
  injection h2 with h3
  injection h3 with _ h4 _
  exact hne h4
theorem LogOk.noted {B : Nat} {W : World} {l : GLog} {ns : List Noted} {ix : Nat → List Nat} {A : ALog} {X : Nat → Prop} (h : LogOk B W l ns ix A X) {W' : World} {S' : Sl} {s : Nat} (hs : s < 64) {kept : Sl} {d : Vector UInt8 32} {xs : List UInt8}
    (hkeep : ∀ k, k < W.heap.size → B ≤ k → (Sl.val l.entries).ownBlock ≠ some k → (Sl.val l.shelves[s]).ownBlock ≠ some k → W'.heap[k]? = W.heap[k]?)
    (l' : GLog) (hE : W'.ownsRow B 110 33 (Sl.val l'.entries) (ns ++ [(⟨kept, d⟩ : Noted)]).length ((ns ++ [(⟨kept, d⟩ : Noted)]).flatMap Noted.enc))
    (hS : W'.ownsRow B 3 1 (Sl.val S') (ix s ++ [ns.length]).length ((ix s ++ [ns.length]).map fun j => .int .i64 (j : Nat)))
    (hSb : (Sl.val S').ownBlock = (Sl.val l.shelves[s]).ownBlock ∨ ∀ k, (Sl.val S').ownBlock = some k → W.heap.size ≤ k)
    (hin : OwnB B W' (Sl.val kept) xs) (hxl : xs.length ≤ 70000) (hl2 : l'.shelves = l.shelves.set s S' hs) (hsd : s = d[0].toNat % 64) (hkX : ∀ k, (Sl.val kept).ownBlock = some k → ¬ X k) {fd : Option (Nat × Nat)} (hfn : l'.found = fd.isSome) (hfs : ∀ i j, fd = some (i, j) → l'.first = (i : Int) ∧ l'.second = (j : Int)) :
    LogOk B W' l' (ns ++ [(⟨kept, d⟩ : Noted)]) (fun t => if t = s then ix s ++ [ns.length] else ix t) ⟨A.es ++ [(xs, d)], fd⟩ X := by
  have hat : ∀ t (ht : t < 64), l'.shelves[t] = if t = s then S' else l.shelves[t] := fun t ht => by
    simp only [hl2, Vector.getElem_set]
    by_cases e : s = t
    · subst e; simp
    · have : ¬ t = s := fun q => e q.symm
      simp [e, this]
  have hcl := h.clen
  refine ⟨hE, by simp [hcl], ?_, ?_, ?_, ?_, ?_, ?_, hfn, hfs⟩
  · intro j n e hn he
    by_cases hj : j < ns.length
    · rw [List.getElem?_append_left hj] at hn
      have he' : A.es[j]? = some e := by
        have : (A.es ++ [(xs, d)])[j]? = some e := he
        rwa [List.getElem?_append_left (by omega)] at this
      obtain ⟨h1, h2, h3, hx4⟩ := h.con j n e hn he'
      refine ⟨h1, h2.keep fun k hk => ?_, h3, hx4⟩
      have hk2 := row_at h2 k hk
      exact hkeep k hk2.2.1 hk2.1 (row_ne h2 h.rowE (by decide) k hk) (row_ne h2 (h.rowS s hs) (by decide) k hk)
    · have hj2 : j < ns.length + 1 := by
        have := (List.getElem?_eq_some_iff.1 hn).1
        simpa using this
      obtain rfl : j = ns.length := by omega
      have he' : (A.es ++ [(xs, d)])[ns.length]? = some e := he
      rw [List.getElem?_append_right (Nat.le_refl _), Nat.sub_self] at hn
      rw [← hcl, List.getElem?_append_right (Nat.le_refl _), Nat.sub_self] at he'
      obtain rfl := Option.some.inj hn
      obtain rfl := Option.some.inj he'
      exact ⟨hxl, hin, rfl, hkX⟩
  · intro t ht
    by_cases e : t = s
    · subst e
      simp only [if_true]
      rw [hat t ht, if_pos rfl]
      exact hS
    · simp only [e, if_false]
      rw [hat t ht, if_neg e]
      refine row_keep (h.rowS t ht) fun k hk => ?_
      have hk2 := row_at (h.rowS t ht) k hk
      exact hkeep k hk2.2.1 hk2.1 (row_ne (h.rowS t ht) h.rowE (by decide) k hk) (h.sep t s ht hs e k hk)
  · intro t ht j hj
    by_cases e : t = s
    · rw [if_pos e] at hj
      rcases List.mem_append.1 hj with hj | hj
      · have := h.rng s hs j hj
        simp; omega
      · rw [List.mem_singleton] at hj
        subst hj
        simp
    · rw [if_neg e] at hj
      have := h.rng t ht j hj
      simp; omega
  · intro t ht
    have h1 := h.few t ht
    have h2 := h.few s hs
    by_cases e : t = s
    · subst e
      simp; omega
    · simp [e]; omega
  · intro t u ht hu htu k hk
    rw [hat t ht] at hk
    rw [hat u hu]
    by_cases e : t = s
    · rw [if_pos e] at hk
      rw [if_neg (fun q => htu (e.trans q.symm))]
      intro hk'
      rcases hSb with q | q
      · rw [q] at hk
        exact h.sep s u hs hu (fun q2 => htu (e.trans q2)) k hk hk'
      · have := q k hk
        have := (row_at (h.rowS u hu) k hk').2.1
        omega
    · rw [if_neg e] at hk
      by_cases e2 : u = s
      · rw [if_pos e2]
        intro hk'
        rcases hSb with q | q
        · rw [q] at hk'
          exact h.sep t s ht hs e k hk hk'
        · have := q k hk'
          have := (row_at (h.rowS t ht) k hk).2.1
          omega
      · rw [if_neg e2]
        exact h.sep t u ht hu htu k hk
  · intro t ht
    show _ = shelfOf (A.es ++ [(xs, d)]) t
    rw [shelfOf_append, hcl]
    by_cases e : t = s
    · subst e
      rw [if_pos rfl, if_pos hsd, h.ixs t ht]
    · rw [if_neg e, if_neg (fun q => e (q.trans hsd.symm)), h.ixs t ht]
theorem split1 (L : List Value) (n : Nat) (h : L.length = n + 1) : ∃ x L', L = x :: L' ∧ L'.length = n := by
  cases L with
  | nil => simp at h
  | cons x L => exact ⟨x, L, rfl, by simpa using h⟩
set_option maxRecDepth 100000 in
theorem build110_lit (w : World) (k : Value) (a : Option Addr) (l c : Nat) (hk : k = .slice a l c) (x0 x1 x2 x3 x4 x5 x6 x7 x8 x9 x10 x11 x12 x13 x14 x15 x16 x17 x18 x19 x20 x21 x22 x23 x24 x25 x26 x27 x28 x29 x30 x31 : Value) : (buildOp 110 #[(0, .slice a l c), (1, .agg #[x0, x1, x2, x3, x4, x5, x6, x7, x8, x9, x10, x11, x12, x13, x14, x15, x16, x17, x18, x19, x20, x21, x22, x23, x24, x25, x26, x27, x28, x29, x30, x31])]).run Try.prog w = .ok (.value (.agg #[.slice a l c, x0, x1, x2, x3, x4, x5, x6, x7, x8, x9, x10, x11, x12, x13, x14, x15, x16, x17, x18, x19, x20, x21, x22, x23, x24, x25, x26, x27, x28, x29, x30, x31])) w := by kernel_rfl
theorem build110 (w : World) (a : Option Addr) (l c : Nat) (d : Vector UInt8 32) : (buildOp 110 #[(0, .slice a l c), (1, .agg (arr u8v d).toArray)]).run Try.prog w = .ok (.value (.agg (Noted.enc ⟨⟨a, l, c⟩, d⟩).toArray)) w := by
  have hn : Noted.enc ⟨⟨a, l, c⟩, d⟩ = .slice a l c :: arr u8v d := rfl
  rw [hn]
  have hL : (arr u8v d).length = 32 := length_arr _ _
  generalize arr u8v d = L at hL
  obtain ⟨x0, L0, rfl, hL0⟩ := split1 _ _ hL
  obtain ⟨x1, L1, rfl, hL1⟩ := split1 _ _ hL0
  obtain ⟨x2, L2, rfl, hL2⟩ := split1 _ _ hL1
  obtain ⟨x3, L3, rfl, hL3⟩ := split1 _ _ hL2
  obtain ⟨x4, L4, rfl, hL4⟩ := split1 _ _ hL3
  obtain ⟨x5, L5, rfl, hL5⟩ := split1 _ _ hL4
  obtain ⟨x6, L6, rfl, hL6⟩ := split1 _ _ hL5
  obtain ⟨x7, L7, rfl, hL7⟩ := split1 _ _ hL6
  obtain ⟨x8, L8, rfl, hL8⟩ := split1 _ _ hL7
  obtain ⟨x9, L9, rfl, hL9⟩ := split1 _ _ hL8
  obtain ⟨x10, L10, rfl, hL10⟩ := split1 _ _ hL9
  obtain ⟨x11, L11, rfl, hL11⟩ := split1 _ _ hL10
  obtain ⟨x12, L12, rfl, hL12⟩ := split1 _ _ hL11
  obtain ⟨x13, L13, rfl, hL13⟩ := split1 _ _ hL12
  obtain ⟨x14, L14, rfl, hL14⟩ := split1 _ _ hL13
  obtain ⟨x15, L15, rfl, hL15⟩ := split1 _ _ hL14
  obtain ⟨x16, L16, rfl, hL16⟩ := split1 _ _ hL15
  obtain ⟨x17, L17, rfl, hL17⟩ := split1 _ _ hL16
  obtain ⟨x18, L18, rfl, hL18⟩ := split1 _ _ hL17
  obtain ⟨x19, L19, rfl, hL19⟩ := split1 _ _ hL18
  obtain ⟨x20, L20, rfl, hL20⟩ := split1 _ _ hL19
  obtain ⟨x21, L21, rfl, hL21⟩ := split1 _ _ hL20
  obtain ⟨x22, L22, rfl, hL22⟩ := split1 _ _ hL21
  obtain ⟨x23, L23, rfl, hL23⟩ := split1 _ _ hL22
  obtain ⟨x24, L24, rfl, hL24⟩ := split1 _ _ hL23
  obtain ⟨x25, L25, rfl, hL25⟩ := split1 _ _ hL24
  obtain ⟨x26, L26, rfl, hL26⟩ := split1 _ _ hL25
  obtain ⟨x27, L27, rfl, hL27⟩ := split1 _ _ hL26
  obtain ⟨x28, L28, rfl, hL28⟩ := split1 _ _ hL27
  obtain ⟨x29, L29, rfl, hL29⟩ := split1 _ _ hL28
  obtain ⟨x30, L30, rfl, hL30⟩ := split1 _ _ hL29
  obtain ⟨x31, L31, rfl, hL31⟩ := split1 _ _ hL30
  obtain rfl := List.eq_nil_of_length_eq_zero hL31
  exact build110_lit w _ a l c rfl x0 x1 x2 x3 x4 x5 x6 x7 x8 x9 x10 x11 x12 x13 x14 x15 x16 x17 x18 x19 x20 x21 x22 x23 x24 x25 x26 x27 x28 x29 x30 x31
def bsliceOp (t : TypeId) (len : Nat) (parts : Array (Nat × Value)) : Sem Next := do pure (.value (← Instr.buildSlice t len parts))
theorem execOp_bslice (a : Act) (dst : Option Tmp) (t : TypeId) (len : Nat) (parts : Array (Nat × Operand)) (ty : TypeId) (pos : String) (after : Array Edge) (guard : Option (Nat × Bool)) :
    execOp a.eval { dst, op := .buildSlice t len parts, type := ty, pos, after, guard } = bsliceOp t len (parts.map fun (i, x) => (i, a.eval x)) := rfl
set_option maxRecDepth 100000 in
theorem bslice32_lit (w : World) (x0 x1 x2 x3 x4 x5 x6 x7 x8 x9 x10 x11 x12 x13 x14 x15 x16 x17 x18 x19 x20 x21 x22 x23 x24 x25 x26 x27 x28 x29 x30 x31 x32 : Value) : (bsliceOp 32 1 #[(0, .agg #[x0, x1, x2, x3, x4, x5, x6, x7, x8, x9, x10, x11, x12, x13, x14, x15, x16, x17, x18, x19, x20, x21, x22, x23, x24, x25, x26, x27, x28, x29, x30, x31, x32])]).run Try.prog w = .ok (.value (.slice (some ⟨w.heap.size, 0, none⟩) 1 1)) (w.alloc (.cells #[x0, x1, x2, x3, x4, x5, x6, x7, x8, x9, x10, x11, x12, x13, x14, x15, x16, x17, x18, x19, x20, x21, x22, x23, x24, x25, x26, x27, x28, x29, x30, x31, x32] 110)) := by kernel_rfl
theorem bslice32 (w : World) (x : Noted) : (bsliceOp 32 1 #[(0, .agg x.enc.toArray)]).run Try.prog w = .ok (.value (.slice (some ⟨w.heap.size, 0, none⟩) 1 1)) (w.alloc (.cells x.enc.toArray 110)) := by
  have hL : x.enc.length = 33 := Noted.length_enc x
  generalize x.enc = L at hL
  obtain ⟨x0, L0, rfl, hL0⟩ := split1 _ _ hL
  obtain ⟨x1, L1, rfl, hL1⟩ := split1 _ _ hL0
  obtain ⟨x2, L2, rfl, hL2⟩ := split1 _ _ hL1
  obtain ⟨x3, L3, rfl, hL3⟩ := split1 _ _ hL2
  obtain ⟨x4, L4, rfl, hL4⟩ := split1 _ _ hL3
  obtain ⟨x5, L5, rfl, hL5⟩ := split1 _ _ hL4
  obtain ⟨x6, L6, rfl, hL6⟩ := split1 _ _ hL5
  obtain ⟨x7, L7, rfl, hL7⟩ := split1 _ _ hL6
  obtain ⟨x8, L8, rfl, hL8⟩ := split1 _ _ hL7
  obtain ⟨x9, L9, rfl, hL9⟩ := split1 _ _ hL8
  obtain ⟨x10, L10, rfl, hL10⟩ := split1 _ _ hL9
  obtain ⟨x11, L11, rfl, hL11⟩ := split1 _ _ hL10
  obtain ⟨x12, L12, rfl, hL12⟩ := split1 _ _ hL11
  obtain ⟨x13, L13, rfl, hL13⟩ := split1 _ _ hL12
  obtain ⟨x14, L14, rfl, hL14⟩ := split1 _ _ hL13
  obtain ⟨x15, L15, rfl, hL15⟩ := split1 _ _ hL14
  obtain ⟨x16, L16, rfl, hL16⟩ := split1 _ _ hL15
  obtain ⟨x17, L17, rfl, hL17⟩ := split1 _ _ hL16
  obtain ⟨x18, L18, rfl, hL18⟩ := split1 _ _ hL17
  obtain ⟨x19, L19, rfl, hL19⟩ := split1 _ _ hL18
  obtain ⟨x20, L20, rfl, hL20⟩ := split1 _ _ hL19
  obtain ⟨x21, L21, rfl, hL21⟩ := split1 _ _ hL20
  obtain ⟨x22, L22, rfl, hL22⟩ := split1 _ _ hL21
  obtain ⟨x23, L23, rfl, hL23⟩ := split1 _ _ hL22
  obtain ⟨x24, L24, rfl, hL24⟩ := split1 _ _ hL23
  obtain ⟨x25, L25, rfl, hL25⟩ := split1 _ _ hL24
  obtain ⟨x26, L26, rfl, hL26⟩ := split1 _ _ hL25
  obtain ⟨x27, L27, rfl, hL27⟩ := split1 _ _ hL26
  obtain ⟨x28, L28, rfl, hL28⟩ := split1 _ _ hL27
  obtain ⟨x29, L29, rfl, hL29⟩ := split1 _ _ hL28
  obtain ⟨x30, L30, rfl, hL30⟩ := split1 _ _ hL29
  obtain ⟨x31, L31, rfl, hL31⟩ := split1 _ _ hL30
  obtain ⟨x32, L32, rfl, hL32⟩ := split1 _ _ hL31
  obtain rfl := List.eq_nil_of_length_eq_zero hL32
  exact bslice32_lit w x0 x1 x2 x3 x4 x5 x6 x7 x8 x9 x10 x11 x12 x13 x14 x15 x16 x17 x18 x19 x20 x21 x22 x23 x24 x25 x26 x27 x28 x29 x30 x31 x32
theorem bslice33 (w : World) (n : Int) : (bsliceOp 33 1 #[(0, .int .i64 n)]).run Try.prog w = .ok (.value (.slice (some ⟨w.heap.size, 0, none⟩) 1 1)) (w.alloc (.cells #[.int .i64 n] 3)) := by kernel_rfl
theorem wp_append_run {P : Program} {w : World} {o : Oper} {a : Act} {K : Act → World → Prop} {Q : Exit → Act → World → Prop} (s x : Operand) (t : TypeId)
    (ho : o.op = .call { callee := .builtin .append, args := #[s, x], argTypes := #[t, t] }) (v u v' : Value) (w' : World) (hs : a.eval s = v) (hx : a.eval x = u) (hr : (Builtin.append_ #[t, t] o.type #[v, u]).run P w = .ok v' w') (h : K (a.put o.dst v') w') : o.wp P a w K Q := by
  unfold Oper.wp execOp
  simp only [ho, resolve, invoke, builtin, Sem.run_bind, Sem.run_pure, Result.andThen_ok, List.map_toArray, List.map_cons, List.map_nil, hs, hx, hr]
  exact h
theorem info110 : ∃ i, Try.prog.info? 110 = some i ∧ i.zero = some (.agg Noted.zero.enc.toArray) ∧ i.size = 33 ∧ i.bytes = 56 := by
  have hq : (Try.prog.info? 110).map (fun i => (i.zero, i.size, i.bytes)) = some (some (.agg Noted.zero.enc.toArray), 33, 56) := by kernel_rfl
  cases hx : Try.prog.info? 110 with
  | none => rw [hx] at hq; simp at hq
  | some i =>
    rw [hx] at hq
    simp only [Option.map_some, Option.some.injEq, Prod.mk.injEq] at hq
    exact ⟨i, rfl, hq.1, hq.2.1, hq.2.2⟩
theorem info3 : ∃ i, Try.prog.info? 3 = some i ∧ i.zero = some (.int .i64 0) ∧ i.size = 1 ∧ i.bytes = 8 := by
  have hq : (Try.prog.info? 3).map (fun i => (i.zero, i.size, i.bytes)) = some (some (.int .i64 0), 1, 8) := by kernel_rfl
  cases hx : Try.prog.info? 3 with
  | none => rw [hx] at hq; simp at hq
  | some i =>
    rw [hx] at hq
    simp only [Option.map_some, Option.some.injEq, Prod.mk.injEq] at hq
    exact ⟨i, rfl, hq.1, hq.2.1, hq.2.2⟩
theorem row_val {B : Nat} {W : World} {e : TypeId} {size : Nat} {v : Value} {n : Nat} {xs : List Value} (h : W.ownsRow B e size v n xs) : ∃ S : Sl, v = Sl.val S ∧ S.len = n := by
  obtain ⟨h1, h2 | ⟨g, cap, cur, e1, e2⟩⟩ := h
  · exact ⟨⟨none, 0, 0⟩, h2.1, h2.2.symm⟩
  · exact ⟨⟨_, n, cap⟩, e1, rfl⟩
theorem append110 (w : World) (B : Nat) (S : Sl) (ns : List Noted) (x : Noted) (g : Nat) (hrow : w.ownsRow B 110 33 (Sl.val S) ns.length (ns.flatMap Noted.enc)) (hg : w.heap[g]? = some (.cells x.enc.toArray 110)) (hB : B ≤ w.heap.size) (hn : ns.length ≤ 70000) (ty : TypeId) :
    ∃ (S' : Sl) (w' : World), (Builtin.append_ #[32, 32] ty #[Sl.val S, .slice (some ⟨g, 0, none⟩) 1 1]).run Try.prog w = .ok (Sl.val S') w' ∧ w'.ownsRow B 110 33 (Sl.val S') (ns ++ [x]).length ((ns ++ [x]).flatMap Noted.enc) ∧ w.grownBy w' (Sl.val S).ownBlock ∧ ((Sl.val S').ownBlock = (Sl.val S).ownBlock ∨ (Sl.val S').ownBlock = some w.heap.size) ∧ S'.len = ns.length + 1 := by
  obtain ⟨i, hi, hz, hsz, hby⟩ := info110
  have hnews : ∀ j u, x.enc[j]? = some u → w.cell? ((⟨g, 0, none⟩ : Addr).add j) = some u := fun j u hu => by
    rw [add_addr, cell_blk (blk_mk hg), Nat.zero_add]
    exact hu
  have hone : ∀ u ∈ x.enc, u.oneCell' = true := by have := Noted.one_enc x; simpa using this
  have hll : x.enc.length = 1 * 33 := Noted.length_enc x
  have hzc : (Value.agg Noted.zero.enc.toArray).cells.size = 33 := by simp [Value.cells, Noted.length_enc]
  obtain ⟨v', w', hr, h1, h2, _⟩ := run_append_own (P := Try.prog) w B 32 ty 110 i _ 33 56 Try.underlying32 hi hz hsz hby hzc (by decide) (Sl.val S) ns.length (ns.flatMap Noted.enc) hrow ⟨g, 0, none⟩ 1 1 x.enc hll hnews hone (by simp only [maxLen]; omega) (by omega) hB
  have hbk := append_block_gen (P := Try.prog) w B 32 ty 110 i _ 33 56 Try.underlying32 hi hz hsz hby hzc (by decide) (Sl.val S) ns.length (ns.flatMap Noted.enc) hrow ⟨g, 0, none⟩ 1 1 x.enc hll hnews hone (by simp only [maxLen]; omega) (by omega) v' w' hr
  obtain ⟨S', rfl, hSl⟩ := row_val h1
  refine ⟨S', w', hr, ?_, h2, hbk, hSl⟩
  rw [List.length_append, List.flatMap_append]
  simpa using h1
theorem append3 (w : World) (B : Nat) (S : Sl) (ks : List Nat) (n : Nat) (g : Nat) (hrow : w.ownsRow B 3 1 (Sl.val S) ks.length (ks.map fun j => .int .i64 (j : Nat))) (hg : w.heap[g]? = some (.cells #[.int .i64 (n : Nat)] 3)) (hB : B ≤ w.heap.size) (hk : ks.length ≤ 70000) (ty : TypeId) :
    ∃ (S' : Sl) (w' : World), (Builtin.append_ #[33, 33] ty #[Sl.val S, .slice (some ⟨g, 0, none⟩) 1 1]).run Try.prog w = .ok (Sl.val S') w' ∧ w'.ownsRow B 3 1 (Sl.val S') (ks ++ [n]).length ((ks ++ [n]).map fun j => .int .i64 (j : Nat)) ∧ w.grownBy w' (Sl.val S).ownBlock ∧ ((Sl.val S').ownBlock = (Sl.val S).ownBlock ∨ (Sl.val S').ownBlock = some w.heap.size) := by
  obtain ⟨i, hi, hz, hsz, hby⟩ := info3
  have hnews : ∀ j u, [Value.int .i64 (n : Nat)][j]? = some u → w.cell? ((⟨g, 0, none⟩ : Addr).add j) = some u := fun j u hu => by
    rw [add_addr, cell_blk (blk_mk hg), Nat.zero_add]
    exact hu
  obtain ⟨v', w', hr, h1, h2, _⟩ := run_append_own (P := Try.prog) w B 33 ty 3 i _ 1 8 Try.underlying33 hi hz hsz hby rfl (by decide) (Sl.val S) ks.length _ hrow ⟨g, 0, none⟩ 1 1 [.int .i64 (n : Nat)] rfl hnews (by simp; rfl) (by simp only [maxLen]; omega) (by omega) hB
  have hbk := append_block_gen (P := Try.prog) w B 33 ty 3 i _ 1 8 Try.underlying33 hi hz hsz hby rfl (by decide) (Sl.val S) ks.length _ hrow ⟨g, 0, none⟩ 1 1 [.int .i64 (n : Nat)] rfl hnews (by simp; rfl) (by simp only [maxLen]; omega) (by omega) v' w' hr
  obtain ⟨S', rfl, hSl⟩ := row_val h1
  refine ⟨S', w', hr, ?_, h2, hbk⟩
  rw [List.length_append, List.map_append]
  exact h1
end Go.Proofs.Qxb6500785a
