import Derived.Test.Qxb6500785aWit
import Derived.Test.Qxb6500785aWn
import Derived.Test.Qxb6500785aStepB2
import Derived.Test.Qxb6500785aColl
import Derived.Test.Qxb6500785aStream
import Derived.Test.Qxb6500785aApart
import Derived.Test.Qxb6500785aKnown
import Derived.Deep.RegionHeld
import Derived.Deep.CutRange
import Derived.Laws.ResultCell
import Derived.Laws.Rows
set_option linter.unusedSimpArgs false
set_option linter.unusedVariables false
namespace Go.Proofs.Qxb6500785a
open Go.RowKit Go.Blk
attribute [local go_sem ↓] execOp_load execOp_store execOp_alloc
attribute [local go_sem] Try.ld24 Try.st24 Try.ld5 Try.st5 Try.ld3 Try.st3 Try.ld27 Try.st27 Try.ld32 Try.st32 Try.ld33 Try.st33 Try.ld4 Try.st4 Try.ld41 Try.st41 Try.ld40 Try.st40 Try.ld42 Try.st42 Try.ld47 Try.st47 Try.ld48 Try.st48 Try.ld57 Try.st57 Try.ld58 Try.st58 Try.ld2 Try.st2 Try.ld9 Try.st9 Try.ld12 Try.st12 Try.ld21 Try.st21 Try.ld22 Try.st22 Try.ld46 Try.st46 Try.ld83 Try.st83 Try.ld95 Try.st95 Try.ld99 Try.st99 Try.ld106 Try.st106 Try.ld108 Try.st108 Try.ld134 Try.st134 Try.ld25 Try.st25 Try.ld26 Try.st26 Try.ld34 Try.st34 Try.ld31 Try.st31 Try.ld30 Try.st30 Try.ld74 Try.st74 Try.ld96 Try.st96 Try.ld101 Try.st101 Try.ld115 Try.st115 Try.ld116 Try.st116 Try.ld120 Try.st120 Try.ld121 Try.st121 Try.ld122 Try.st122 Try.ld29 Try.st29 Try.ld36 Try.st36 Try.ld38 Try.st38 Try.ld44 Try.st44 Try.ld50 Try.st50 Try.ld60 Try.st60 Try.ld110 Try.st110 Try.al25 Try.al26 Try.al34 Try.al31 Try.al30 Try.al74 Try.al96 Try.al101 Try.al115 Try.al116 Try.al120 Try.al121 Try.al122 Try.al29 Try.al36 Try.al38 Try.al44 Try.al50 Try.al60 Try.al110
attribute [local go_sem] Hasher.length_enc Hasher.ok_enc Hasher.all_get Hasher.all_set Hasher.state_get Hasher.state_set Hasher.block_get Hasher.block_set Hasher.fill_get Hasher.fill_set Hasher.length_get Hasher.length_set GLog.length_enc GLog.ok_enc GLog.all_get GLog.all_set GLog.entries_get GLog.entries_set GLog.shelves_get GLog.shelves_set GLog.first_get GLog.first_set GLog.second_get GLog.second_set GLog.found_get GLog.found_set Player.length_enc Player.ok_enc Player.all_get Player.all_set Player.hand_get Player.hand_set Player.aside_get Player.aside_set Player.prev_get Player.prev_set Player.last_get Player.last_set Player.log_get Player.log_set Player.hand_state_get Player.hand_state_set Player.hand_block_get Player.hand_block_set Player.hand_fill_get Player.hand_fill_set Player.hand_length_get Player.hand_length_set Player.aside_state_get Player.aside_state_set Player.aside_block_get Player.aside_block_set Player.aside_fill_get Player.aside_fill_set Player.aside_length_get Player.aside_length_set Player.log_entries_get Player.log_entries_set Player.log_shelves_get Player.log_shelves_set Player.log_first_get Player.log_first_set Player.log_second_get Player.log_second_set Player.log_found_get Player.log_found_set GOp.length_enc GOp.ok_enc GOp.all_get GOp.all_set GOp.kind_get GOp.kind_set GOp.data_get GOp.data_set GOp.cut_get GOp.cut_set GOp.n_get GOp.n_set GOp.b_get GOp.b_set GOp.v_get GOp.v_set GOp.dom_get GOp.dom_set GOp.sum_get GOp.sum_set Answer.length_enc Answer.ok_enc Answer.all_get Answer.all_set Answer.code_get Answer.code_set Answer.sum_get Answer.sum_set Answer.len_get Answer.len_set Answer.mark_get Answer.mark_set Answer.noted_get Answer.noted_set Answer.collided_get Answer.collided_set GState.length_enc GState.ok_enc GState.all_get GState.all_set GState.hand_get GState.hand_set GState.aside_get GState.aside_set GState.prev_get GState.prev_set GState.last_get GState.last_set GState.inputs_get GState.inputs_set GState.sums_get GState.sums_set GState.collided_get GState.collided_set GState.older_get GState.older_set GState.younger_get GState.younger_set Noted.length_enc Noted.ok_enc Noted.all_get Noted.all_set Noted.input_get Noted.input_set Noted.sum_get Noted.sum_set
attribute [local go_sem] size_put size_ext blk_put free_put blk_alloc free_alloc blk_drew free_drew blk_ext free_ext lookOr_some putOr_some segAt_some cellAt_some storeIn_some put_put put_alloc_new length_arr ok_arr_u8 ok_arr_u32 ok_arr_u64 ok_arr_i64 ok_arr_sl cellsV_agg cellsV_int cellsV_bool cellsV_string cellsV_pointer cellsV_slice cellsV_sl ok_int ok_bool ok_string ok_pointer ok_slice ok_sl toList_arr seg_arr set_arr nth_splice nth_splice0 seg_splice seg_splice0 splice_splice splice_splice0 length_splice_if
attribute [local go_sem] w32_and w32_or w32_xor w32_add w32_or8 w32_not w8_and w8_or w8_xor w32_shr2 w32_shl2 w32_shr3 w32_shl3 w32_shr6 w32_shl6 w32_shr7 w32_shl7 w32_shr8 w32_shl8 w32_shr10 w32_shl10 w32_shr11 w32_shl11 w32_shr13 w32_shl13 w32_shr14 w32_shl14 w32_shr15 w32_shl15 w32_shr16 w32_shl16 w32_shr17 w32_shl17 w32_shr18 w32_shl18 w32_shr19 w32_shl19 w32_shr21 w32_shl21 w32_shr22 w32_shl22 w32_shr24 w32_shl24 w32_shr25 w32_shl25 w32_shr26 w32_shl26 w32_shr30 w32_shl30 w8_shl24 w8_shl16 w8_shl8 v32_add v32_byte w32_byte0 v8_shl24 v8_shl16 v8_shl8 v32_shr2 v32_shl2 v32_shr3 v32_shl3 v32_shr6 v32_shl6 v32_shr7 v32_shl7 v32_shr8 v32_shl8 v32_shr10 v32_shl10 v32_shr11 v32_shl11 v32_shr13 v32_shl13 v32_shr14 v32_shl14 v32_shr15 v32_shl15 v32_shr16 v32_shl16 v32_shr17 v32_shl17 v32_shr18 v32_shl18 v32_shr19 v32_shl19 v32_shr21 v32_shl21 v32_shr22 v32_shl22 v32_shr24 v32_shl24 v32_shr25 v32_shl25 v32_shr26 v32_shl26 v32_shr30 v32_shl30
attribute [local go_sem ↓] execOp_build
attribute [local go_sem] run_build_kv run_build_iv nth_arr_u32 put_arr_u32 nth_arr_u8 put_arr_u8 v32_of8 blk_drewN free_drewN put_drewN put_drew blk_raw free_raw
attribute [local go_sem ↓] execOp_slice execOp_copy
attribute [local go_sem] Try.sl40lo Try.sl40hi Try.sl26lo Try.sl26hi Try.sl26 Try.sl96lo Try.sl96hi Try.sl96 Try.sl31lo Try.sl31 Try.sl120 Try.sl121 Try.sl121lo Try.sl121hi Try.cp40 copyOr_some copyIn_some srcB_drew srcB_drewN srcB_raw length_bv one_bv
attribute [local go_sem] Hasher.length_zero
attribute [local go_sem] Try.cpv copyOrV_some
attribute [local go_sem ↓] execOp_index execOp_convert execOp_box execOp_convert9
attribute [local go_sem] index_hex box_run conv_bytes eq31
attribute [local go_sem] build31
attribute [local go_sem ↓] execOp_make execOp_bslice
attribute [local go_sem] make40 bslice57 bslice58
set_option maxRecDepth 100000 in
theorem frame151 (f : Nat → Value) : frameN 151 f = #[f 0, f 1, f 2, f 3, f 4, f 5, f 6, f 7, f 8, f 9, f 10, f 11, f 12, f 13, f 14, f 15, f 16, f 17, f 18, f 19, f 20, f 21, f 22, f 23, f 24, f 25, f 26, f 27, f 28, f 29, f 30, f 31, f 32, f 33, f 34, f 35, f 36, f 37, f 38, f 39, f 40, f 41, f 42, f 43, f 44, f 45, f 46, f 47, f 48, f 49, f 50, f 51, f 52, f 53, f 54, f 55, f 56, f 57, f 58, f 59, f 60, f 61, f 62, f 63, f 64, f 65, f 66, f 67, f 68, f 69, f 70, f 71, f 72, f 73, f 74, f 75, f 76, f 77, f 78, f 79, f 80, f 81, f 82, f 83, f 84, f 85, f 86, f 87, f 88, f 89, f 90, f 91, f 92, f 93, f 94, f 95, f 96, f 97, f 98, f 99, f 100, f 101, f 102, f 103, f 104, f 105, f 106, f 107, f 108, f 109, f 110, f 111, f 112, f 113, f 114, f 115, f 116, f 117, f 118, f 119, f 120, f 121, f 122, f 123, f 124, f 125, f 126, f 127, f 128, f 129, f 130, f 131, f 132, f 133, f 134, f 135, f 136, f 137, f 138, f 139, f 140, f 141, f 142, f 143, f 144, f 145, f 146, f 147, f 148, f 149, f 150] := by kernel_rfl
theorem LogOk.zero (B : Nat) (W : World) : LogOk B W GLog.zero [] (fun _ => []) ⟨[], none⟩ := by
  refine ⟨⟨rfl, .inl ⟨rfl, rfl⟩⟩, rfl, fun j n e hn => by simp at hn, fun s h => ⟨rfl, .inl ⟨?_, rfl⟩⟩, fun s h j hj => by simp at hj, fun s h => Nat.le_refl _, fun s t hs ht hst k hk => ?_, fun s hs => rfl, rfl, fun i j h => by simp at h⟩
  · simp [GLog.zero, Sl.val]
  · simp [GLog.zero, Sl.val, Value.ownBlock] at hk
theorem PlayAt.new {w w2 : World} {p0 : Player} (he : Ext w w2) (h1 : Rep p0.hand []) (h2 : Rep p0.aside []) (h3 : p0.prev = Z32) (h4 : p0.last = Z32) (hl : p0.log = GLog.zero) : PlayAt w w2.heap.size p0 ⟨[], [], Z32, Z32, ⟨[], none⟩⟩ (w2.alloc (.cells p0.enc.toArray 38)) :=
  ⟨by rw [blk_alloc, if_pos rfl], by rw [free_alloc, if_pos rfl], h1, h2, h3, h4, ⟨[], fun _ => [], by rw [hl]; exact LogOk.zero _ _⟩, he.size, extends_alloc (ext_Ext he) _⟩
theorem two_cells (W : World) (z X Y : List Value) (t : TypeId) (c1 c2 : Nat) (h : (c1 = W.heap.size ∧ c2 = W.heap.size + 1) ∨ (c1 = W.heap.size + 1 ∧ c2 = W.heap.size)) :
    blk ((put (put ((W.alloc (.cells z.toArray t)).alloc (.cells z.toArray t)) c1 X) c2 Y).drew) c1 = some X ∧ blk ((put (put ((W.alloc (.cells z.toArray t)).alloc (.cells z.toArray t)) c1 X) c2 Y).drew) c2 = some Y ∧ TyAt ((put (put ((W.alloc (.cells z.toArray t)).alloc (.cells z.toArray t)) c1 X) c2 Y).drew) c1 t ∧ TyAt ((put (put ((W.alloc (.cells z.toArray t)).alloc (.cells z.toArray t)) c1 X) c2 Y).drew) c2 t ∧ W.Extends ((put (put ((W.alloc (.cells z.toArray t)).alloc (.cells z.toArray t)) c1 X) c2 Y).drew) := by
  obtain ⟨V, hV⟩ : ∃ V, V = (W.alloc (.cells z.toArray t)).alloc (.cells z.toArray t) := ⟨_, rfl⟩
  have hsz : V.heap.size = W.heap.size + 2 := by rw [hV, World.size_alloc, World.size_alloc]
  have ha : ∀ c, (c = W.heap.size ∨ c = W.heap.size + 1) → V.heap[c]? = some (.cells z.toArray t) := by
    rintro c (rfl | rfl)
    · rw [hV, heap_alloc, if_neg (by rw [World.size_alloc]; omega), heap_alloc, if_pos rfl]
    · rw [hV, heap_alloc, if_pos (by rw [World.size_alloc])]
  have hext : W.Extends V := by rw [hV]; exact extends_alloc (extends_alloc (ext_Ext (Ext.refl W)) _) _
  rw [← hV]
  have a1 := ha c1 (by omega)
  have a2 := ha c2 (by omega)
  have b1 := blk_mk a1
  have b2 := blk_mk a2
  have hne : ¬ c1 = c2 := by omega
  have hne' : ¬ c2 = c1 := by omega
  have t1 : TyAt V c1 t := ⟨_, _, a1⟩
  have t2 : TyAt V c2 t := ⟨_, _, a2⟩
  refine ⟨?_, ?_, ((t1.put _ _).put _ _), ((t2.put _ _).put _ _), ?_⟩
  · rw [blk_drew, blk_put, if_neg hne, blk_put, if_pos rfl, b1]; rfl
  · rw [blk_drew, blk_put, if_pos rfl, blk_put, if_neg hne', b2]; rfl
  · refine extends_of (bp := W.heap.size) hext (Nat.le_refl _) rfl rfl rfl (by show _ ≤ (put (put V c1 X) c2 Y).heap.size; rw [size_put, size_put]; exact Nat.le_refl _) fun k h1 h2 => ?_
    show (put (put V c1 X) c2 Y).heap[k]? = _
    rw [heap_put, if_neg (by omega), heap_put, if_neg (by omega)]
theorem szd (W : World) : W.drew.heap.size = W.heap.size := rfl
theorem stepF_A {S : PS} {g : GOp} {xs : List UInt8} (h9 : ¬ g.kind = 9) (h10 : ¬ g.kind = 10) (h12 : ¬ g.kind = 12) : (stepF S g xs).1.A = S.A := by
  by_cases h1 : g.kind = 1
  · rw [stepF_1 h1]
  by_cases h2 : g.kind = 2
  · rw [stepF_2 h2]
  by_cases h3 : g.kind = 3
  · rw [stepF_3 h3]
  by_cases h4 : g.kind = 4
  · rw [stepF_4 h4]
  by_cases h5 : g.kind = 5
  · rw [stepF_5 h5]
  by_cases h6 : g.kind = 6
  · rw [stepF_6 h6]
  by_cases h7 : g.kind = 7
  · rw [stepF_7 h7]
  by_cases h8 : g.kind = 8
  · rw [stepF_8 h8]
  by_cases h11 : g.kind = 11
  · by_cases hn : 0 ≤ g.n ∧ g.n ≤ 10
    · rw [stepF_11 h11 hn]
    · rw [stepF_11b h11 hn]
  by_cases h13 : g.kind = 13
  · cases hd : parseH xs with
    | some d => rw [stepF_13 h13 hd]
    | none => rw [stepF_13b h13 hd]
  rw [stepF_0 h1 h2 h3 h4 h5 h6 h7 h8 h9 h10 h11 h12 h13]
theorem InsI.two {w : World} {B : Nat} {W : World} {v : Sl} {L : List Ent} (h : InsI w B W v L) (he : w.Extends W) {i j : Nat} {d e : Ent} (hi : L[i]? = some d) (hj : L[j]? = some e) :
    ∃ g c C s t, v = ⟨some ⟨g, 0, none⟩, L.length, c⟩ ∧ blk W g = some C ∧ nth C i = some (Sl.val s) ∧ BytesAt W.heap.size W s.a s.len s.cap d.1 ∧ nth C j = some (Sl.val t) ∧ BytesAt W.heap.size W t.a t.len t.cap e.1 := by
  obtain ⟨g, c, C, s, h1, h2, h3, h4⟩ := h.at he hi
  obtain ⟨g', c', C', t, q1, q2, q3, q4⟩ := h.at he hj
  rw [h1] at q1
  injection q1 with z1 _ z3
  injection z1 with z1
  injection z1 with z1
  subst z1
  rw [h2] at q2
  obtain rfl := Option.some.inj q2
  exact ⟨g, c, C, s, t, h1, h2, h3, h4, q3, q4⟩
theorem InsS.two {B : Nat} {W : World} {v : Sl} {L : List Ent} (h : InsS B W v L) {i j : Nat} {d e : Ent} (hi : L[i]? = some d) (hj : L[j]? = some e) :
    ∃ g c C, v = ⟨some ⟨g, 0, none⟩, L.length, c⟩ ∧ blk W g = some C ∧ i * 32 + 32 ≤ C.length ∧ seg C (i * 32) 32 = arr u8v d.2 ∧ j * 32 + 32 ≤ C.length ∧ seg C (j * 32) 32 = arr u8v e.2 := by
  obtain ⟨g, c, C, h1, h2, h3, h4⟩ := h.at hi
  obtain ⟨g', c', C', q1, q2, q3, q4⟩ := h.at hj
  rw [h1] at q1
  injection q1 with z1 _ z3
  injection z1 with z1
  injection z1 with z1
  subst z1
  rw [h2] at q2
  obtain rfl := Option.some.inj q2
  exact ⟨g, c, C, h1, h2, h3, h4, q3, q4⟩
def ls2 (W1 : World) (vi vs : Sl) (m bp : Nat) (L : List Ent) (f : Nat → Value) (W : World) : Prop :=
  f 3 = .pointer (some ⟨bp, 0, none⟩) ∧ f 4 = .slice vi.a m vi.cap ∧ f 5 = Sl.val vs ∧ ∃ (i : Nat) (ex : Bool), i ≤ m ∧ f 12 = .int .i64 (i : Nat) ∧ f 11 = .bool ex ∧ Hid (ex = true ↔ collTo L i 0) ∧ ∃ n, W = W1.drewN n
def ls3 (W1 : World) (vi vs : Sl) (m bp : Nat) (L : List Ent) (i : Nat) (f : Nat → Value) (W : World) : Prop :=
  f 3 = .pointer (some ⟨bp, 0, none⟩) ∧ f 4 = .slice vi.a m vi.cap ∧ f 5 = Sl.val vs ∧ f 12 = .int .i64 (i : Nat) ∧ ∃ (j : Nat) (ex : Bool), i < j ∧ j ≤ m ∧ f 13 = .int .i64 (j : Nat) ∧ f 11 = .bool ex ∧ Hid (ex = true ↔ collTo L i j) ∧ ∃ n, W = W1.drewN n
def lsI (w : World) (a : Option Addr) (len cap bp : Nat) (f : Nat → Value) (W : World) : Prop :=
  f 0 = .slice a len cap ∧ f 22 = .slice a len cap ∧ f 23 = .int .i64 (len : Nat) ∧ f 3 = .pointer (some ⟨bp, 0, none⟩) ∧ ∃ (i : Nat) (p : Player) (S : PS) (L : List Ent) (vi vs : Sl), i ≤ len ∧ f 24 = .int .i64 (i : Nat) ∧ f 4 = Sl.val vi ∧ f 5 = Sl.val vs ∧
    L.length ≤ i ∧ S.A.es.length ≤ i ∧ S.mh.length ≤ cap16 i ∧ S.ma.length ≤ cap16 i ∧ Hid (PlayAt w bp p S W) ∧ Hid (InsI w (bp + 1) W vi L) ∧ Hid (InsS (bp + 1) W vs L) ∧ Hid (S.A = foldNote L)
set_option maxRecDepth 20000 in
set_option maxHeartbeats 4000000 in
theorem logShows_walk (w : World) (a : Option Addr) (len cap : Nat) (g : Nat → GOp) (dt : Nat → List UInt8) (hS : ScriptAt w a len cap g dt) :
    Calls Try.prog 5 #[.slice a len cap] w fun e w' => e = .returned (.bool true) ∧ w.Extends w' := by
  have HS : Hid (ScriptAt w a len cap g dt) := hS
  clear hS
  go_enter Try.func5, Try.ntmps5
  go_wp2_with fail
  refine (small_any w a len cap g dt HS.out).mono ?_
  rintro e w1 ⟨⟨r, rfl, hr⟩, hw1⟩
  subst hw1
  cases r with
  | false =>
    go_wp2_with fail
    go_ret
    exact ⟨rfl, ext_Ext (Ext.refl _)⟩
  | true =>
    obtain ⟨hl, hsm⟩ := hr rfl
    have HSM : Hid (∀ i, i < len → (g i).data.len ≤ 65536) := hsm
    clear hr hsm
    go_wp2_with fail
    refine (newPlayer_any w1).mono ?_
    rintro e w2 ⟨⟨p0, rfl, hr1, hr2, hr3, hr4, hlg⟩, hE2⟩
    have HPL : Hid (PlayAt w1 w2.heap.size p0 ⟨[], [], Z32, Z32, ⟨[], none⟩⟩ (w2.alloc (.cells p0.enc.toArray 38))) := PlayAt.new hE2 hr1 hr2 hr3 hr4 hlg
    clear hr1 hr2 hE2 hlg hr3 hr4
    go_wp2_with fail
    refine wp_loop_f 151 (lsI w1 a len cap w2.heap.size) (fun f _ => len - (intOf (f 24)).toNat) rfl ?_ ?_
    · exact ⟨rfl, rfl, rfl, rfl, 0, p0, _, [], ⟨none, 0, 0⟩, ⟨none, 0, 0⟩, by omega, rfl, rfl, rfl, by simp, by simp, by simp, by simp, HPL, InsI.nil _ _ _, InsS.nil _ _, rfl⟩
    obtain ⟨w, hw⟩ : ∃ w, w = w1 := ⟨_, rfl⟩
    rw [← hw] at HS ⊢
    obtain ⟨bp, hbp⟩ : ∃ bp, bp = w2.heap.size := ⟨_, rfl⟩
    rw [← hbp]
    clear HPL hbp
    intro F W hrel
    obtain ⟨h0, hr, hln, h3, i, p, S, L, vi, vs, hi, hiv, h4, h5, hLi, hAi, hlh, hls, HP0, HI0, HS0, HA⟩ := hrel
    have HIV : Hid (F 24 = .int .i64 (i : Nat)) := hiv
    rw [frame151, h0, hr, hln, h3, hiv, h4, h5]
    clear h0 hr hln h3 hiv h4 h5
    have hcap := cap16_succ i
    have hcapl := cap16_le (i + 1) (by omega)
    by_cases hil : i < len
    · have hSW := HS.out.mono HP0.out.ext
      obtain ⟨b, o, C, rfl, hC, hlen, hseg⟩ := hSW.2.2.2 (by omega)
      have hsx := hseg i hil
      have HXw := HS.out.bytes hil (HSM.out i hil)
      obtain ⟨op, hop⟩ : ∃ op, op = g i := ⟨_, rfl⟩
      rw [← hop] at hsx HXw
      have HX0 : Hid (BytesAt w.heap.size w op.data.a op.data.len op.data.cap (dt i)) := HXw
      have hdl : op.data.len ≤ 65536 := by rw [hop]; exact HSM.out i hil
      clear hSW hseg hop HXw
      have q0 : (0 : Int) ≤ (i : Int) := by omega
      have q1 : (i : Int) < (len : Int) := by omega
      have q2 : ((i : Int)).toNat = i := by omega
      have q3 : o + i * 39 + 39 ≤ C.length := by omega
      go_upto_region 9 with fail
      refine wp_world (fun W1 => blk W1 bp = some p.enc ∧ blk W1 W.heap.size = some op.enc ∧ W.heap.size < W1.heap.size ∧ Hid (PlayAt w bp p S W1) ∧ Hid (TyAt W1 W.heap.size 44) ∧ Hid (W.Extends W1)) ⟨?_, ?_, ?_, HP0.out.grow (extends_alloc (ext_Ext (Ext.refl _)) _), ?_, extends_alloc (ext_Ext (Ext.refl _)) _⟩ ?_
      · rw [blk_alloc, if_neg (by have := HP0.out.lt; omega)]; exact HP0.out.blk
      · rw [blk_alloc, if_pos rfl]
      · rw [World.size_alloc]; omega
      · show TyAt _ _ _
        unfold TyAt
        rw [heap_alloc, if_pos rfl]
        exact ⟨_, _, rfl⟩
      have HBPW : Hid (bp < W.heap.size) := HP0.out.lt
      rintro W1 ⟨hb1, hbo, hbol, HP1, HTY, HEW⟩
      have HI1 : Hid (InsI w (bp + 1) W1 vi L) := HI0.out.grow HEW.out
      have HS1 : Hid (InsS (bp + 1) W1 vs L) := HS0.out.grow HEW.out
      obtain ⟨bo, hboe⟩ : ∃ bo, bo = W.heap.size := ⟨_, rfl⟩
      rw [← hboe] at hbo hbol HBPW HTY ⊢
      clear hboe hC HP0 hsx HI0 HS0 HEW
      go_cut [8, 9] from 28 to 31 (fun s8 s9 wx => ∃ b8 b9 : Nat, s8 = .pointer (some ⟨b8, 0, none⟩) ∧ s9 = .pointer (some ⟨b9, 0, none⟩) ∧ blk wx b8 = some (arr u8v p.prev) ∧ blk wx b9 = some (arr u8v p.last) ∧ TyAt wx b8 31 ∧ TyAt wx b9 31 ∧ bo < b8 ∧ bo < b9 ∧ W1.Extends wx)
      case first =>
        have e1 : ¬ bp = W1.heap.size := by have := HP1.out.lt; omega
        have e2 : ¬ bp = W1.heap.size + 1 := by have := HP1.out.lt; omega
        have e3 : ¬ W1.heap.size = W1.heap.size + 1 := by omega
        have e4 : ¬ W1.heap.size + 1 = W1.heap.size := by omega
        refine wp_region_held_drew (S := fun W' => blk W' bp = some p.enc ∧ True) (by kernel_rfl) ⟨hb1, trivial⟩ (fun hHeld => ?_)
        refine wpAnyH_take (i := 0) (oi := ⟨_, _, _, _, _, _⟩) (v := ?_) rfl (by kernel_rfl) (by kernel_rfl) (by kernel_rfl) (fun _ _ _ h => h) (Or.inl ⟨by rfl, ?_⟩) (by assumption) ?_
        rotate_left 1
        · intro W' hSw
          obtain ⟨hS1, hS2⟩ := hSw
          go_simp
          try with_reducible rfl
        try simp only [Act.put, List.setIfInBounds_toArray, List.set_cons_zero, List.set_cons_succ]
        refine wpAnyH_take (i := 1) (oi := ⟨_, _, _, _, _, _⟩) (v := ?_) rfl (by kernel_rfl) (by kernel_rfl) (by kernel_rfl) (fun _ _ _ h => h) (Or.inl ⟨by rfl, ?_⟩) (by assumption) ?_
        rotate_left 1
        · intro W' hSw
          obtain ⟨hS1, hS2⟩ := hSw
          go_simp
          try with_reducible rfl
        try simp only [Act.put, List.setIfInBounds_toArray, List.set_cons_zero, List.set_cons_succ]
        refine wpAnyH_take (i := 2) (oi := ⟨_, _, _, _, _, _⟩) (v := ?_) rfl (by kernel_rfl) (by kernel_rfl) (by kernel_rfl) (fun _ _ _ h => h) (Or.inl ⟨by rfl, ?_⟩) (by assumption) ?_
        rotate_left 1
        · intro W' hSw
          obtain ⟨hS1, hS2⟩ := hSw
          go_simp
          try with_reducible rfl
        try simp only [Act.put, List.setIfInBounds_toArray, List.set_cons_zero, List.set_cons_succ]
        refine wpAnyH_take (i := 3) (oi := ⟨_, _, _, _, _, _⟩) (v := ?_) rfl (by kernel_rfl) (by kernel_rfl) (by kernel_rfl) (fun _ _ _ h => h) (Or.inl ⟨by rfl, ?_⟩) (by assumption) ?_
        rotate_left 1
        · intro W' hSw
          obtain ⟨hS1, hS2⟩ := hSw
          go_simp
          try with_reducible rfl
        try simp only [Act.put, List.setIfInBounds_toArray, List.set_cons_zero, List.set_cons_succ]
        refine wpAnyH_ready (rs := [4, 5]) (by kernel_rfl) (by simp) ?_
        refine AllReadyH.cons (o := ⟨_, _, _, _, _, _⟩) rfl (fun K hK => ?_) (AllReadyH.cons (o := ⟨_, _, _, _, _, _⟩) rfl (fun K hK => ?_) AllReadyH.nil)
        · skip
          go_simp
          refine hK.out _ _ ?_ (fun hHeld => ?_)
          · first | exact ⟨hb1, trivial⟩ | (refine ⟨?_, trivial⟩; simp only [blk_drew, blk_put, blk_alloc, World.size_alloc, szd, e1, e2, if_false]; exact hb1)
          clear hK K
          try simp only [Act.put, List.setIfInBounds_toArray, List.set_cons_zero, List.set_cons_succ]
          refine wpAnyH_ready (rs := [5]) (by kernel_rfl) (by simp) ?_
          refine AllReadyH.cons (o := ⟨_, _, _, _, _, _⟩) rfl (fun K hK => ?_) AllReadyH.nil
          go_simp
          refine hK.out _ _ ?_ (fun hHeld => ?_)
          · first | exact ⟨hb1, trivial⟩ | (refine ⟨?_, trivial⟩; simp only [blk_drew, blk_put, blk_alloc, World.size_alloc, szd, e1, e2, if_false]; exact hb1)
          clear hK K
          try simp only [Act.put, List.setIfInBounds_toArray, List.set_cons_zero, List.set_cons_succ]
          refine wpAnyH_ready (rs := [6]) (by kernel_rfl) (by simp) ?_
          refine AllReadyH.cons (o := ⟨_, _, _, _, _, _⟩) rfl (fun K hK => ?_) AllReadyH.nil
          go_simp
          refine hK.out _ _ ?_ (fun hHeld => ?_)
          · first | exact ⟨hb1, trivial⟩ | (refine ⟨?_, trivial⟩; simp only [blk_drew, blk_put, blk_alloc, World.size_alloc, szd, e1, e2, if_false]; exact hb1)
          clear hK K
          try simp only [Act.put, List.setIfInBounds_toArray, List.set_cons_zero, List.set_cons_succ]
          refine wpAnyH_ready (rs := [7]) (by kernel_rfl) (by simp) ?_
          refine AllReadyH.cons (o := ⟨_, _, _, _, _, _⟩) rfl (fun K hK => ?_) AllReadyH.nil
          go_simp
          refine hK.out _ _ ?_ (fun hHeld => ?_)
          · first | exact ⟨hb1, trivial⟩ | (refine ⟨?_, trivial⟩; simp only [blk_drew, blk_put, blk_alloc, World.size_alloc, szd, e1, e2, if_false]; exact hb1)
          clear hK K
          try simp only [Act.put, List.setIfInBounds_toArray, List.set_cons_zero, List.set_cons_succ]
          refine wpAnyH_done (by kernel_rfl) ?_ _
          go_wp2_with fail
          go_meet
          obtain ⟨z1, z2, z3, z4, z5⟩ := two_cells W1 (arr u8v (Vector.replicate 32 (0 : UInt8))) (arr u8v p.prev) (arr u8v p.last) 31 W1.heap.size (W1.heap.size + 1) (.inl ⟨rfl, rfl⟩)
          exact ⟨W1.heap.size, (W1.heap.size + 1), rfl, rfl, z1, z2, z3, z4, by omega, by omega, z5⟩
        · skip
          go_simp
          refine hK.out _ _ ?_ (fun hHeld => ?_)
          · first | exact ⟨hb1, trivial⟩ | (refine ⟨?_, trivial⟩; simp only [blk_drew, blk_put, blk_alloc, World.size_alloc, szd, e1, e2, if_false]; exact hb1)
          clear hK K
          try simp only [Act.put, List.setIfInBounds_toArray, List.set_cons_zero, List.set_cons_succ]
          refine wpAnyH_ready (rs := [4]) (by kernel_rfl) (by simp) ?_
          refine AllReadyH.cons (o := ⟨_, _, _, _, _, _⟩) rfl (fun K hK => ?_) AllReadyH.nil
          go_simp
          refine hK.out _ _ ?_ (fun hHeld => ?_)
          · first | exact ⟨hb1, trivial⟩ | (refine ⟨?_, trivial⟩; simp only [blk_drew, blk_put, blk_alloc, World.size_alloc, szd, e1, e2, if_false]; exact hb1)
          clear hK K
          try simp only [Act.put, List.setIfInBounds_toArray, List.set_cons_zero, List.set_cons_succ]
          refine wpAnyH_ready (rs := [6]) (by kernel_rfl) (by simp) ?_
          refine AllReadyH.cons (o := ⟨_, _, _, _, _, _⟩) rfl (fun K hK => ?_) AllReadyH.nil
          go_simp
          refine hK.out _ _ ?_ (fun hHeld => ?_)
          · first | exact ⟨hb1, trivial⟩ | (refine ⟨?_, trivial⟩; simp only [blk_drew, blk_put, blk_alloc, World.size_alloc, szd, e1, e2, if_false]; exact hb1)
          clear hK K
          try simp only [Act.put, List.setIfInBounds_toArray, List.set_cons_zero, List.set_cons_succ]
          refine wpAnyH_ready (rs := [7]) (by kernel_rfl) (by simp) ?_
          refine AllReadyH.cons (o := ⟨_, _, _, _, _, _⟩) rfl (fun K hK => ?_) AllReadyH.nil
          go_simp
          refine hK.out _ _ ?_ (fun hHeld => ?_)
          · first | exact ⟨hb1, trivial⟩ | (refine ⟨?_, trivial⟩; simp only [blk_drew, blk_put, blk_alloc, World.size_alloc, szd, e1, e2, if_false]; exact hb1)
          clear hK K
          try simp only [Act.put, List.setIfInBounds_toArray, List.set_cons_zero, List.set_cons_succ]
          refine wpAnyH_done (by kernel_rfl) ?_ _
          go_wp2_with fail
          go_meet
          obtain ⟨z1, z2, z3, z4, z5⟩ := two_cells W1 (arr u8v (Vector.replicate 32 (0 : UInt8))) (arr u8v p.prev) (arr u8v p.last) 31 (W1.heap.size + 1) W1.heap.size (.inr ⟨rfl, rfl⟩)
          exact ⟨(W1.heap.size + 1), W1.heap.size, rfl, rfl, z1, z2, z3, z4, by omega, by omega, z5⟩
      case rest =>
        obtain ⟨b8, b9, rfl, rfl, h8c, h9c, ht8, ht9, h8l, h9l, hxc⟩ := hcut
        have HPc : Hid (PlayAt w bp p S wc) := HP1.out.grow hxc
        have HIc : Hid (InsI w (bp + 1) wc vi L) := HI1.out.grow hxc
        have HSc : Hid (InsS (bp + 1) wc vs L) := HS1.out.grow hxc
        have hboc := (hxc.blk hbol).trans hbo
        have HTYc : Hid (TyAt wc bo 44) := HTY.out.of_heap (hxc.block _ hbol)
        have HT8 : Hid (TyAt wc b8 31) := ht8
        have HT9 : Hid (TyAt wc b9 31) := ht9
        have hblc := blk_lt hboc
        have hbpo := HBPW.out
        clear HP1 HI1 HS1 hbo hbol HTY hb1 ht8 ht9 hxc HBPW
        go_wp2_with fail
        refine (step_any w wc bp p op S (dt i) HPc.out HX0.out hdl (by omega) (by omega)).mono ?_
        rintro e W2 ⟨p', rfl, hP2, hbs⟩
        obtain ⟨hF1, hF2, hF3⟩ := stepF_small S op (dt i) (by rw [HX0.out.1]; exact hdl) (cap16 i) hlh hls
        have hbo2 := (blk_of_heap (hbs bo hblc (by omega) (HTYc.out.not_row (by decide)))).trans hboc
        have h82 := (blk_of_heap (hbs b8 (blk_lt h8c) (by omega) (HT8.out.not_row (by decide)))).trans h8c
        have h92 := (blk_of_heap (hbs b9 (blk_lt h9c) (by omega) (HT9.out.not_row (by decide)))).trans h9c
        have HI2 : Hid (InsI w (bp + 1) W2 vi L) := HIc.out.beside hbs
        have HS2 : Hid (InsS (bp + 1) W2 vs L) := HSc.out.beside hbs
        have HP2 : Hid (PlayAt w bp p' (stepF S op (dt i)).1 W2) := hP2
        obtain ⟨ans, hans⟩ : ∃ ans, ans = stepAns (stepF S op (dt i)).2.1 (stepF S op (dt i)).2.2.1 (stepF S op (dt i)).2.2.2 p' := ⟨_, rfl⟩
        rw [← hans]
        have HCO : Hid (ans.code = (stepF S op (dt i)).2.1) := by show _ = _; rw [hans]; rfl
        have HSU : Hid (ans.sum = (stepF S op (dt i)).2.2.1) := by show _ = _; rw [hans]; rfl
        have hlb2 := blk_lt hbo2
        have HTO2 : Hid (TyAt W2 bo 44) := HTYc.out.of_heap (hbs bo hblc (by omega) (HTYc.out.not_row (by decide)))
        have hl82 := blk_lt h82
        have hl92 := blk_lt h92
        have nz1 : ¬ bo = W2.heap.size := by omega
        have nz2 : ¬ b8 = W2.heap.size := by omega
        have nz3 : ¬ b9 = W2.heap.size := by omega
        have HPV : Hid (p.prev = S.prev ∧ p.last = S.last) := ⟨HPc.out.pv, HPc.out.ls⟩
        clear hans hP2 hbs HPc HIc HSc hboc HTYc HT8 HT9 h8c h9c hblc
        go_upto_region 11 with fail
        refine wp_world (fun W3 => blk W3 bo = some op.enc ∧ blk W3 W2.heap.size = some ans.enc ∧ blk W3 b8 = some (arr u8v p.prev) ∧ blk W3 b9 = some (arr u8v p.last) ∧ Hid (PlayAt w bp p' (stepF S op (dt i)).1 W3) ∧ Hid (InsI w (bp + 1) W3 vi L) ∧ Hid (InsS (bp + 1) W3 vs L) ∧ Hid (TyAt W3 W2.heap.size 50) ∧ Hid (TyAt W3 bo 44)) ⟨?_, ?_, ?_, ?_, HP2.out.grow (extends_alloc (ext_Ext (Ext.refl _)) _), HI2.out.grow (extends_alloc (ext_Ext (Ext.refl _)) _), HS2.out.grow (extends_alloc (ext_Ext (Ext.refl _)) _), ?_, HTO2.out.of_heap (heap_alloc_old _ _ hlb2)⟩ ?_
        · rw [blk_alloc, if_neg nz1]; exact hbo2
        · rw [blk_alloc, if_pos rfl]
        · rw [blk_alloc, if_neg nz2]; exact h82
        · rw [blk_alloc, if_neg nz3]; exact h92
        · show TyAt _ _ _
          unfold TyAt
          rw [heap_alloc, if_pos rfl]
          exact ⟨_, _, rfl⟩
        obtain ⟨ba, hba⟩ : ∃ ba, ba = W2.heap.size := ⟨_, rfl⟩
        rw [← hba]
        clear hba hbo2 h82 h92 HP2 HI2 HS2 nz1 nz2 nz3 hlb2 hl82 hl92
        rintro W3 ⟨ho3, ha3, h83, h93, HP3, HI3, HS3, HTA, HTO⟩
        by_cases k9 : op.kind = 9
        · cases hd : okDom op.dom with
          | true =>
            have hF := stepF_9 (S := S) (xs := dt i) k9 hd
            have hco : ans.code = 0 := by rw [HCO.out, hF]
            have hsu : ans.sum = sha (op.dom :: dt i) := by rw [HSU.out, hF]
            have HF : Hid (_ = _) := hF
            have HSU9 : Hid (_ = _) := hsu
            clear hF hsu
            have hLX : L.length ≤ 70000 := by omega
            go_wp2_with fail
            refine (input_any W3 _ op.dom op.data.a op.data.len op.data.cap (dt i) (HX0.out.at_new (fun k hk => HP3.out.ext.blk hk) HP3.out.ext.size) (by omega)).mono ?_
            rintro e Wi ⟨v, rfl, ho, he⟩
            obtain ⟨va, vc, rfl, hvx⟩ := own_bytes ho (by rw [List.length_cons, HX0.out.1]; omega)
            obtain ⟨vl, hvl⟩ : ∃ vl, vl = (op.dom :: dt i).length := ⟨_, rfl⟩
            rw [← hvl] at ho ⊢
            have hoi := (blk_lt ho3)
            have HPi : Hid (PlayAt w bp p' (stepF S op (dt i)).1 Wi) := HP3.out.grow he
            have HIi : Hid (InsI w (bp + 1) Wi vi L) := HI3.out.grow he
            have HSi : Hid (InsS (bp + 1) Wi vs L) := HS3.out.grow he
            have hali := blk_lt ha3
            have hai := (he.blk hali).trans ha3
            have HTAi : Hid (TyAt Wi ba 50) := HTA.out.of_heap (he.block _ hali)
            have hoi2 := (he.blk hoi).trans ho3
            have HSRi : Hid (SrcAt w (bp + 1) Wi ⟨va, vl, vc⟩ (op.dom :: dt i)) := ⟨by rw [List.length_cons, HX0.out.1]; omega, .inr (ho.weaken (by have := HP3.out.lt; omega))⟩
            clear ho he hvx hvl hoi HP3 HI3 HS3 ha3 hali HTA ho3 h83 h93
            have HP4 : Hid (PlayAt w bp p' (stepF S op (dt i)).1 (Wi.alloc (.cells #[.slice va vl vc] 40))) := HPi.out.grow (extends_alloc (ext_Ext (Ext.refl _)) _)
            have HI4 : Hid (InsI w (bp + 1) (Wi.alloc (.cells #[.slice va vl vc] 40)) vi L) := HIi.out.grow (extends_alloc (ext_Ext (Ext.refl _)) _)
            have HS4 : Hid (InsS (bp + 1) (Wi.alloc (.cells #[.slice va vl vc] 40)) vs L) := HSi.out.grow (extends_alloc (ext_Ext (Ext.refl _)) _)
            have hX4 : Wi.Extends (Wi.alloc (.cells #[.slice va vl vc] 40)) := extends_alloc (ext_Ext (Ext.refl _)) _
            have hg4 : blk (Wi.alloc (.cells #[.slice va vl vc] 40)) Wi.heap.size = some [Sl.val ⟨va, vl, vc⟩] := by rw [blk_alloc, if_pos rfl]; rfl
            have hali4 := blk_lt hai
            have ha4 := (hX4.blk hali4).trans hai
            have hal4 := blk_lt ha4
            have HTA4 : Hid (TyAt (Wi.alloc (.cells #[.slice va vl vc] 40)) ba 50) := HTAi.out.of_heap (hX4.block _ hali4)
            have HSR : Hid (SrcAt w (bp + 1) (Wi.alloc (.cells #[.slice va vl vc] 40)) ⟨va, vl, vc⟩ (_)) := HSRi.out.keep fun c _ hc _ => hX4.block c hc
            clear hX4 HPi HIi HSi HSRi HTAi hali4
            obtain ⟨vi', W5, hrun, hP5, hI5, hS5, hz5, hk5⟩ := app57 ((op.dom :: dt i, sha (op.dom :: dt i))) HP4.out HI4.out HS4.out (s := ⟨va, vl, vc⟩) (g := Wi.heap.size) hg4 HSR.out hLX 57
            have ha5 := (blk_of_heap (hk5 ba hal4 (HTA4.out.ne (by decide)))).trans ha4

            have HP5 : Hid (PlayAt w bp p' (stepF S op (dt i)).1 W5) := hP5
            have HI5 : Hid (InsI w (bp + 1) W5 vi' (L ++ [(op.dom :: dt i, sha (op.dom :: dt i))])) := hI5
            have HS5 : Hid (InsS (bp + 1) W5 vs L) := hS5
            clear hP5 hI5 hS5 hz5 hk5
            go_upto_region 15 with (at_builtin; refine wpList_append_run rfl _ _ 57 rfl _ _ _ _ rfl rfl hrun ?_)
            clear hrun
            obtain ⟨vs', W7, hrun, hP7, hI7, hS7⟩ := app58 (W := W5.alloc (.cells (arr u8v ans.sum).toArray 31)) (g := W5.heap.size) ((op.dom :: dt i, sha (op.dom :: dt i))) (HP5.out.grow (extends_alloc (ext_Ext (Ext.refl _)) _)) (HI5.out.grow (extends_alloc (ext_Ext (Ext.refl _)) _)) (HS5.out.grow (extends_alloc (ext_Ext (Ext.refl _)) _)) (by rw [blk_alloc, if_pos rfl]; rw [HSU9.out]) hLX 58
            have HP7 : Hid (PlayAt w bp p' (stepF S op (dt i)).1 W7) := hP7
            have HI7 : Hid (InsI w (bp + 1) W7 vi' (L ++ [(op.dom :: dt i, sha (op.dom :: dt i))])) := hI7
            have HS7 : Hid (InsS (bp + 1) W7 vs' (L ++ [(op.dom :: dt i, sha (op.dom :: dt i))])) := hS7
            clear hP7 hI7 hS7 HP5 HI5 HS5
            go_wp2_with (at_builtin; refine wpList_append_run rfl _ _ 58 rfl _ _ _ _ rfl rfl hrun ?_)
            refine ⟨rfl, rfl, ?_, ?_⟩
            · refine ⟨rfl, rfl, rfl, rfl, i + 1, p', (stepF S op (dt i)).1, L ++ [(op.dom :: dt i, sha (op.dom :: dt i))], vi', vs', by omega, ?_, rfl, rfl, by simp; omega, by omega, by omega, by omega, HP7, HI7, HS7, by show _ = _; rw [foldNote_snoc, ← HA.out, HF.out]⟩
              show Value.int .i64 _ = _
              go_num
            · show len - (intOf (Value.int .i64 _)).toNat < len - (intOf (F 24)).toNat
              rw [HIV.out]
              simp [intOf]; omega
          | false =>
            have hF := stepF_9b (S := S) (xs := dt i) k9 hd
            have hco : ans.code = 2 := by rw [HCO.out, hF]
            have HF : Hid (_ = _) := hF
            clear hF
            go_wp2_with fail
            refine ⟨rfl, rfl, ?_, ?_⟩
            · refine ⟨rfl, rfl, rfl, rfl, i + 1, p', (stepF S op (dt i)).1, L, vi, vs, by omega, ?_, rfl, rfl, by omega, by omega, by omega, by omega, HP3, HI3, HS3, by show _ = _; rw [HF.out]; exact HA.out⟩
              show Value.int .i64 _ = _
              go_num
            · show len - (intOf (Value.int .i64 _)).toNat < len - (intOf (F 24)).toNat
              rw [HIV.out]
              simp [intOf]; omega
        by_cases k10 : op.kind = 10
        · skip
          have hF := stepF_10 (S := S) (xs := dt i) k10
          have hco : ans.code = 0 := by rw [HCO.out, hF]
          have hsu : ans.sum = nodeD p.prev p.last := by rw [HSU.out, hF, HPV.out.1, HPV.out.2]
          have HF : Hid (_ = _) := hF
          have HSU9 : Hid (_ = _) := hsu
          clear hF hsu
          have hLX : L.length ≤ 70000 := by omega
          go_wp2_with fail
          refine (nodeInput_any W3 p.prev p.last).mono ?_
          rintro e Wi ⟨v, rfl, ho, he⟩
          obtain ⟨va, vc, rfl, hvx⟩ := own_bytes ho (by simp)
          obtain ⟨vl, hvl⟩ : ∃ vl, vl = (3 :: (p.prev.toList ++ p.last.toList)).length := ⟨_, rfl⟩
          rw [← hvl] at ho ⊢
          have hoi := (blk_lt ho3)
          have HPi : Hid (PlayAt w bp p' (stepF S op (dt i)).1 Wi) := HP3.out.grow he
          have HIi : Hid (InsI w (bp + 1) Wi vi L) := HI3.out.grow he
          have HSi : Hid (InsS (bp + 1) Wi vs L) := HS3.out.grow he
          have hali := blk_lt ha3
          have hai := (he.blk hali).trans ha3
          have HTAi : Hid (TyAt Wi ba 50) := HTA.out.of_heap (he.block _ hali)
          have hoi2 := (he.blk hoi).trans ho3
          have HSRi : Hid (SrcAt w (bp + 1) Wi ⟨va, vl, vc⟩ (3 :: (p.prev.toList ++ p.last.toList))) := ⟨by simp, .inr (ho.weaken (by have := HP3.out.lt; omega))⟩
          clear ho he hvx hvl hoi HP3 HI3 HS3 ha3 hali HTA ho3 h83 h93
          have HP4 : Hid (PlayAt w bp p' (stepF S op (dt i)).1 (Wi.alloc (.cells #[.slice va vl vc] 40))) := HPi.out.grow (extends_alloc (ext_Ext (Ext.refl _)) _)
          have HI4 : Hid (InsI w (bp + 1) (Wi.alloc (.cells #[.slice va vl vc] 40)) vi L) := HIi.out.grow (extends_alloc (ext_Ext (Ext.refl _)) _)
          have HS4 : Hid (InsS (bp + 1) (Wi.alloc (.cells #[.slice va vl vc] 40)) vs L) := HSi.out.grow (extends_alloc (ext_Ext (Ext.refl _)) _)
          have hX4 : Wi.Extends (Wi.alloc (.cells #[.slice va vl vc] 40)) := extends_alloc (ext_Ext (Ext.refl _)) _
          have hg4 : blk (Wi.alloc (.cells #[.slice va vl vc] 40)) Wi.heap.size = some [Sl.val ⟨va, vl, vc⟩] := by rw [blk_alloc, if_pos rfl]; rfl
          have hali4 := blk_lt hai
          have ha4 := (hX4.blk hali4).trans hai
          have hal4 := blk_lt ha4
          have HTA4 : Hid (TyAt (Wi.alloc (.cells #[.slice va vl vc] 40)) ba 50) := HTAi.out.of_heap (hX4.block _ hali4)
          have HSR : Hid (SrcAt w (bp + 1) (Wi.alloc (.cells #[.slice va vl vc] 40)) ⟨va, vl, vc⟩ (_)) := HSRi.out.keep fun c _ hc _ => hX4.block c hc
          clear hX4 HPi HIi HSi HSRi HTAi hali4
          obtain ⟨vi', W5, hrun, hP5, hI5, hS5, hz5, hk5⟩ := app57 ((3 :: (p.prev.toList ++ p.last.toList), nodeD p.prev p.last)) HP4.out HI4.out HS4.out (s := ⟨va, vl, vc⟩) (g := Wi.heap.size) hg4 HSR.out hLX 57
          have ha5 := (blk_of_heap (hk5 ba hal4 (HTA4.out.ne (by decide)))).trans ha4

          have HP5 : Hid (PlayAt w bp p' (stepF S op (dt i)).1 W5) := hP5
          have HI5 : Hid (InsI w (bp + 1) W5 vi' (L ++ [(3 :: (p.prev.toList ++ p.last.toList), nodeD p.prev p.last)])) := hI5
          have HS5 : Hid (InsS (bp + 1) W5 vs L) := hS5
          clear hP5 hI5 hS5 hz5 hk5
          go_upto_region 18 with (at_builtin; refine wpList_append_run rfl _ _ 57 rfl _ _ _ _ rfl rfl hrun ?_)
          clear hrun
          obtain ⟨vs', W7, hrun, hP7, hI7, hS7⟩ := app58 (W := W5.alloc (.cells (arr u8v ans.sum).toArray 31)) (g := W5.heap.size) ((3 :: (p.prev.toList ++ p.last.toList), nodeD p.prev p.last)) (HP5.out.grow (extends_alloc (ext_Ext (Ext.refl _)) _)) (HI5.out.grow (extends_alloc (ext_Ext (Ext.refl _)) _)) (HS5.out.grow (extends_alloc (ext_Ext (Ext.refl _)) _)) (by rw [blk_alloc, if_pos rfl]; rw [HSU9.out]) hLX 58
          have HP7 : Hid (PlayAt w bp p' (stepF S op (dt i)).1 W7) := hP7
          have HI7 : Hid (InsI w (bp + 1) W7 vi' (L ++ [(3 :: (p.prev.toList ++ p.last.toList), nodeD p.prev p.last)])) := hI7
          have HS7 : Hid (InsS (bp + 1) W7 vs' (L ++ [(3 :: (p.prev.toList ++ p.last.toList), nodeD p.prev p.last)])) := hS7
          clear hP7 hI7 hS7 HP5 HI5 HS5
          go_wp2_with (at_builtin; refine wpList_append_run rfl _ _ 58 rfl _ _ _ _ rfl rfl hrun ?_)
          refine ⟨rfl, rfl, ?_, ?_⟩
          · refine ⟨rfl, rfl, rfl, rfl, i + 1, p', (stepF S op (dt i)).1, L ++ [(3 :: (p.prev.toList ++ p.last.toList), nodeD p.prev p.last)], vi', vs', by omega, ?_, rfl, rfl, by simp; omega, by omega, by omega, by omega, HP7, HI7, HS7, by show _ = _; rw [foldNote_snoc, ← HA.out, HF.out, HPV.out.1, HPV.out.2]⟩
            show Value.int .i64 _ = _
            go_num
          · show len - (intOf (Value.int .i64 _)).toNat < len - (intOf (F 24)).toNat
            rw [HIV.out]
            simp [intOf]; omega
        by_cases k12 : op.kind = 12
        · skip
          have hF := stepF_12 (S := S) (xs := dt i) k12
          have hco : ans.code = 0 := by rw [HCO.out, hF]
          have HF : Hid (_ = _) := hF
          clear hF
          have hLX : L.length ≤ 70000 := by omega
          obtain ⟨va, hva⟩ : ∃ va, va = op.data.a := ⟨_, rfl⟩
          obtain ⟨vl, hvl⟩ : ∃ vl, vl = op.data.len := ⟨_, rfl⟩
          obtain ⟨vc, hvc⟩ : ∃ vc, vc = op.data.cap := ⟨_, rfl⟩
          have HSR3 : Hid (SrcAt w (bp + 1) W3 ⟨va, vl, vc⟩ (dt i)) := ⟨by rw [HX0.out.1]; omega, .inl (by rw [hva, hvl, hvc]; exact HX0.out)⟩
          have hov3 : Sl.val op.data = .slice va vl vc := by rw [hva, hvl, hvc]; rfl
          have hol3 := blk_lt ho3
          have ho4 : blk (W3.alloc (.cells #[.slice va vl vc] 40)) bo = some op.enc := by rw [blk_alloc, if_neg (by omega)]; exact ho3
          have HTO4 : Hid (TyAt (W3.alloc (.cells #[.slice va vl vc] 40)) bo 44) := HTO.out.of_heap (heap_alloc_old _ _ hol3)
          clear hva hvl hvc
          have HP4 : Hid (PlayAt w bp p' (stepF S op (dt i)).1 (W3.alloc (.cells #[.slice va vl vc] 40))) := HP3.out.grow (extends_alloc (ext_Ext (Ext.refl _)) _)
          have HI4 : Hid (InsI w (bp + 1) (W3.alloc (.cells #[.slice va vl vc] 40)) vi L) := HI3.out.grow (extends_alloc (ext_Ext (Ext.refl _)) _)
          have HS4 : Hid (InsS (bp + 1) (W3.alloc (.cells #[.slice va vl vc] 40)) vs L) := HS3.out.grow (extends_alloc (ext_Ext (Ext.refl _)) _)
          have hX4 : W3.Extends (W3.alloc (.cells #[.slice va vl vc] 40)) := extends_alloc (ext_Ext (Ext.refl _)) _
          have hg4 : blk (W3.alloc (.cells #[.slice va vl vc] 40)) W3.heap.size = some [Sl.val ⟨va, vl, vc⟩] := by rw [blk_alloc, if_pos rfl]; rfl
          have hali4 := blk_lt ha3
          have ha4 := (hX4.blk hali4).trans ha3
          have hal4 := blk_lt ha4
          have HTA4 : Hid (TyAt (W3.alloc (.cells #[.slice va vl vc] 40)) ba 50) := HTA.out.of_heap (hX4.block _ hali4)
          have HSR : Hid (SrcAt w (bp + 1) (W3.alloc (.cells #[.slice va vl vc] 40)) ⟨va, vl, vc⟩ (_)) := HSR3.out.keep fun c _ hc _ => hX4.block c hc
          clear hX4 HP3 HI3 HS3 HSR3 HTA hali4
          obtain ⟨vi', W5, hrun, hP5, hI5, hS5, hz5, hk5⟩ := app57 ((dt i, op.sum)) HP4.out HI4.out HS4.out (s := ⟨va, vl, vc⟩) (g := W3.heap.size) hg4 HSR.out hLX 57
          have ha5 := (blk_of_heap (hk5 ba hal4 (HTA4.out.ne (by decide)))).trans ha4
          have ho5 := (blk_of_heap (hk5 bo (blk_lt ho4) (HTO4.out.ne (by decide)))).trans ho4
          have HP5 : Hid (PlayAt w bp p' (stepF S op (dt i)).1 W5) := hP5
          have HI5 : Hid (InsI w (bp + 1) W5 vi' (L ++ [(dt i, op.sum)])) := hI5
          have HS5 : Hid (InsS (bp + 1) W5 vs L) := hS5
          clear hP5 hI5 hS5 hz5 hk5
          go_upto_region 21 with (at_builtin; refine wpList_append_run rfl _ _ 57 rfl _ _ _ _ rfl rfl hrun ?_)
          clear hrun
          obtain ⟨vs', W7, hrun, hP7, hI7, hS7⟩ := app58 (W := W5.alloc (.cells (arr u8v op.sum).toArray 31)) (g := W5.heap.size) ((dt i, op.sum)) (HP5.out.grow (extends_alloc (ext_Ext (Ext.refl _)) _)) (HI5.out.grow (extends_alloc (ext_Ext (Ext.refl _)) _)) (HS5.out.grow (extends_alloc (ext_Ext (Ext.refl _)) _)) (by rw [blk_alloc, if_pos rfl]) hLX 58
          have HP7 : Hid (PlayAt w bp p' (stepF S op (dt i)).1 W7) := hP7
          have HI7 : Hid (InsI w (bp + 1) W7 vi' (L ++ [(dt i, op.sum)])) := hI7
          have HS7 : Hid (InsS (bp + 1) W7 vs' (L ++ [(dt i, op.sum)])) := hS7
          clear hP7 hI7 hS7 HP5 HI5 HS5
          go_wp2_with (at_builtin; refine wpList_append_run rfl _ _ 58 rfl _ _ _ _ rfl rfl hrun ?_)
          refine ⟨rfl, rfl, ?_, ?_⟩
          · refine ⟨rfl, rfl, rfl, rfl, i + 1, p', (stepF S op (dt i)).1, L ++ [(dt i, op.sum)], vi', vs', by omega, ?_, rfl, rfl, by simp; omega, by omega, by omega, by omega, HP7, HI7, HS7, by show _ = _; rw [foldNote_snoc, ← HA.out, HF.out]⟩
            show Value.int .i64 _ = _
            go_num
          · show len - (intOf (Value.int .i64 _)).toNat < len - (intOf (F 24)).toNat
            rw [HIV.out]
            simp [intOf]; omega
        have HFA : Hid ((stepF S op (dt i)).1.A = S.A) := stepF_A k9 k10 k12
        have k9b : (op.kind == 9) = false := by simp [k9]
        have k10b : (op.kind == 10) = false := by simp [k10]
        have k12b : (op.kind == 12) = false := by simp [k12]
        by_cases hco : ans.code = 0
        · go_wp2_with fail
          refine ⟨rfl, rfl, ?_, ?_⟩
          · refine ⟨rfl, rfl, rfl, rfl, i + 1, p', (stepF S op (dt i)).1, L, vi, vs, by omega, ?_, rfl, rfl, by omega, by omega, by omega, by omega, HP3, HI3, HS3, by show _ = _; rw [HFA.out]; exact HA.out⟩
            show Value.int .i64 _ = _
            go_num
          · show len - (intOf (Value.int .i64 _)).toNat < len - (intOf (F 24)).toNat
            rw [HIV.out]
            simp [intOf]; omega
        · have hcb : (ans.code == 0) = false := by simp [hco]
          go_wp2_with fail
          refine ⟨rfl, rfl, ?_, ?_⟩
          · refine ⟨rfl, rfl, rfl, rfl, i + 1, p', (stepF S op (dt i)).1, L, vi, vs, by omega, ?_, rfl, rfl, by omega, by omega, by omega, by omega, HP3, HI3, HS3, by show _ = _; rw [HFA.out]; exact HA.out⟩
            show Value.int .i64 _ = _
            go_num
          · show len - (intOf (Value.int .i64 _)).toNat < len - (intOf (F 24)).toNat
            rw [HIV.out]
            simp [intOf]; omega
    · obtain rfl : i = len := by omega
      have hvl := HI0.out.len
      obtain ⟨m, hml⟩ : ∃ m, m = L.length := ⟨_, rfl⟩
      have hvi : Sl.val vi = .slice vi.a m vi.cap := by rw [hml, ← hvl]; rfl
      rw [hvi]
      have HML : Hid (m = L.length) := hml
      have hm7 : m ≤ 65536 := by omega
      have HGD : Hid (Good L S.A) := by show Good _ _; rw [HA.out]; exact good_fold L
      have HAL : Hid (S.A.es.length ≤ 65536) := by show _ ≤ _; omega
      clear hvl hvi hml HIV
      go_wp2_with fail
      refine wp_loop_f 151 (ls2 W vi vs m bp L) (fun f _ => m - (intOf (f 12)).toNat) rfl ?_ ?_
      · exact ⟨rfl, rfl, rfl, 0, false, by omega, rfl, rfl, by show _ ↔ _; exact ⟨fun h => absurd h (by decide), fun h => absurd h (collTo_zero L)⟩, 0, rfl⟩
      intro F2 W2 hrel
      obtain ⟨h3, h4, h5, i, ex, him, h12, h11, HEX2, n, rfl⟩ := hrel
      have H12 : Hid (F2 12 = .int .i64 (i : Nat)) := h12
      rw [frame151, h3, h4, h5, h12, h11]
      clear h3 h4 h5 h12 h11
      by_cases hil : i < m
      · have q0 : (0 : Int) ≤ (i : Int) := by omega
        have q1 : (i : Int) < (m : Int) := by omega
        have q2 : ((i : Int)).toNat = i := by omega
        go_wp2_with fail
        refine wp_loop_f 151 (ls3 W vi vs m bp L i) (fun f _ => m - (intOf (f 13)).toNat) rfl ?_ ?_
        · refine ⟨rfl, rfl, rfl, rfl, i + 1, ex, by omega, by omega, ?_, rfl, by show _ ↔ _; rw [collTo_in]; exact HEX2.out, n, rfl⟩
          show Value.int .i64 _ = _
          go_num
        clear HEX2
        intro F3 W3 hrel
        obtain ⟨h3, h4, h5, h12, j, ex, hij, hjm, h13, h11, HEX3, n, rfl⟩ := hrel
        have H13 : Hid (F3 13 = .int .i64 (j : Nat)) := h13
        rw [frame151, h3, h4, h5, h12, h13, h11]
        clear h3 h4 h5 h12 h13 h11
        by_cases hjl : j < m
        · obtain ⟨xi, hLi⟩ : ∃ e, L[i]? = some e := ⟨_, List.getElem?_eq_some_iff.2 ⟨by have := HML.out; omega, rfl⟩⟩
          obtain ⟨xj, hLj⟩ : ∃ e, L[j]? = some e := ⟨_, List.getElem?_eq_some_iff.2 ⟨by have := HML.out; omega, rfl⟩⟩
          have HLi : Hid (L[i]? = some xi) := hLi
          have HLj : Hid (L[j]? = some xj) := hLj
          obtain ⟨gi, ci, Ci, s, t, hvi, hCi, hni, hsx, hnj, htx⟩ := HI0.out.two HP0.out.ext hLi hLj
          obtain ⟨gs, cs, Cs, hvs, hCs, hls1, hsg1, hls2, hsg2⟩ := HS0.out.two hLi hLj
          rw [← HML.out] at hvi hvs
          have HSX : Hid (BytesAt W.heap.size W s.a s.len s.cap xi.1) := hsx
          have HTX : Hid (BytesAt W.heap.size W t.a t.len t.cap xj.1) := htx
          have hsv : Sl.val s = .slice s.a s.len s.cap := rfl
          have htv : Sl.val t = .slice t.a t.len t.cap := rfl
          rw [hsv] at hni
          rw [htv] at hnj
          rw [hvi, hvs]
          clear hLi hLj hsx htx hvi hvs hsv htv
          have r0 : (0 : Int) ≤ (j : Int) := by omega
          have r1 : (j : Int) < (m : Int) := by omega
          have r2 : ((j : Int)).toNat = j := by omega
          simp only [Sl.val]
          obtain ⟨xi1, xi2⟩ := xi
          obtain ⟨xj1, xj2⟩ := xj
          simp only at hsg1 hsg2 HSX HTX
          by_cases hed : xi2 = xj2
          · have hedd : decide (xi2 = xj2) = true := decide_eq_true hed
            go_wp2_with fail
            refine wp_region_held_drew (S := fun W' => blk W' gs = some Cs ∧ blk W' gi = some Ci ∧ True) (by kernel_rfl) ⟨hCs, hCi, trivial⟩ (fun hHeld => ?_)
            refine wpAnyH_take (i := 0) (oi := ⟨_, _, _, _, _, _⟩) (v := ?_) rfl (by kernel_rfl) (by kernel_rfl) (by kernel_rfl) (fun _ _ _ h => h) (Or.inl ⟨by rfl, ?_⟩) (by assumption) ?_
            rotate_left 1
            · intro W' hSw
              obtain ⟨hS1, hS2, hS3⟩ := hSw
              go_simp
              try with_reducible rfl
            try simp only [Act.put, List.setIfInBounds_toArray, List.set_cons_zero, List.set_cons_succ]
            refine wpAnyH_take (i := 1) (oi := ⟨_, _, _, _, _, _⟩) (v := ?_) rfl (by kernel_rfl) (by kernel_rfl) (by kernel_rfl) (fun _ _ _ h => h) (Or.inl ⟨by rfl, ?_⟩) (by assumption) ?_
            rotate_left 1
            · intro W' hSw
              obtain ⟨hS1, hS2, hS3⟩ := hSw
              go_simp
              try with_reducible rfl
            try simp only [Act.put, List.setIfInBounds_toArray, List.set_cons_zero, List.set_cons_succ]
            refine wpAnyH_take (i := 2) (oi := ⟨_, _, _, _, _, _⟩) (v := ?_) rfl (by kernel_rfl) (by kernel_rfl) (by kernel_rfl) (fun _ _ _ h => h) (Or.inl ⟨by rfl, ?_⟩) (by assumption) ?_
            rotate_left 1
            · intro W' hSw
              obtain ⟨hS1, hS2, hS3⟩ := hSw
              go_simp
              try with_reducible rfl
            try simp only [Act.put, List.setIfInBounds_toArray, List.set_cons_zero, List.set_cons_succ]
            refine wpAnyH_take (i := 3) (oi := ⟨_, _, _, _, _, _⟩) (v := ?_) rfl (by kernel_rfl) (by kernel_rfl) (by kernel_rfl) (fun _ _ _ h => h) (Or.inl ⟨by rfl, ?_⟩) (by assumption) ?_
            rotate_left 1
            · intro W' hSw
              obtain ⟨hS1, hS2, hS3⟩ := hSw
              go_simp
              try with_reducible rfl
            try simp only [Act.put, List.setIfInBounds_toArray, List.set_cons_zero, List.set_cons_succ]
            refine wpAnyH_take (i := 4) (oi := ⟨_, _, _, _, _, _⟩) (v := ?_) rfl (by kernel_rfl) (by kernel_rfl) (by kernel_rfl) (fun _ _ _ h => h) (Or.inl ⟨by rfl, ?_⟩) (by assumption) ?_
            rotate_left 1
            · intro W' hSw
              obtain ⟨hS1, hS2, hS3⟩ := hSw
              go_simp
              try with_reducible rfl
            try simp only [Act.put, List.setIfInBounds_toArray, List.set_cons_zero, List.set_cons_succ]
            refine wpAnyH_take (i := 5) (oi := ⟨_, _, _, _, _, _⟩) (v := ?_) rfl (by kernel_rfl) (by kernel_rfl) (by kernel_rfl) (fun _ _ _ h => h) (Or.inl ⟨by rfl, ?_⟩) (by assumption) ?_
            rotate_left 1
            · intro W' hSw
              obtain ⟨hS1, hS2, hS3⟩ := hSw
              go_simp
              try with_reducible rfl
            try simp only [Act.put, List.setIfInBounds_toArray, List.set_cons_zero, List.set_cons_succ]
            refine wpAnyH_take (i := 6) (oi := ⟨_, _, _, _, _, _⟩) (v := ?_) rfl (by kernel_rfl) (by kernel_rfl) (by kernel_rfl) (fun _ _ _ h => h) (Or.inl ⟨by rfl, ?_⟩) (by assumption) ?_
            rotate_left 1
            · intro W' hSw
              obtain ⟨hS1, hS2, hS3⟩ := hSw
              go_simp
              try with_reducible rfl
            try simp only [Act.put, List.setIfInBounds_toArray, List.set_cons_zero, List.set_cons_succ]
            refine wpAnyH_take (i := 7) (oi := ⟨_, _, _, _, _, _⟩) (v := ?_) rfl (by kernel_rfl) (by kernel_rfl) (by kernel_rfl) (fun _ _ _ h => h) (Or.inl ⟨by rfl, ?_⟩) (by assumption) ?_
            rotate_left 1
            · intro W' hSw
              obtain ⟨hS1, hS2, hS3⟩ := hSw
              go_simp
              try with_reducible rfl
            try simp only [Act.put, List.setIfInBounds_toArray, List.set_cons_zero, List.set_cons_succ]
            refine wpAnyH_take (i := 8) (oi := ⟨_, _, _, _, _, _⟩) (v := ?_) rfl (by kernel_rfl) (by kernel_rfl) (by kernel_rfl) (fun _ _ _ h => h) (Or.inl ⟨by rfl, ?_⟩) (by assumption) ?_
            rotate_left 1
            · intro W' hSw
              obtain ⟨hS1, hS2, hS3⟩ := hSw
              go_simp
              try with_reducible rfl
            try simp only [Act.put, List.setIfInBounds_toArray, List.set_cons_zero, List.set_cons_succ]
            refine wpAnyH_take (i := 9) (oi := ⟨_, _, _, _, _, _⟩) (v := ?_) rfl (by kernel_rfl) (by kernel_rfl) (by kernel_rfl) (fun _ _ _ h => h) (Or.inl ⟨by rfl, ?_⟩) (by assumption) ?_
            rotate_left 1
            · intro W' hSw
              obtain ⟨hS1, hS2, hS3⟩ := hSw
              go_simp
              try with_reducible rfl
            try simp only [Act.put, List.setIfInBounds_toArray, List.set_cons_zero, List.set_cons_succ]
            refine wpAnyH_take (i := 10) (oi := ⟨_, _, _, _, _, _⟩) (v := ?_) rfl (by kernel_rfl) (by kernel_rfl) (by kernel_rfl) (fun _ _ _ h => h) (Or.inl ⟨by rfl, ?_⟩) (by assumption) ?_
            rotate_left 1
            · intro W' hSw
              obtain ⟨hS1, hS2, hS3⟩ := hSw
              go_simp
              try with_reducible rfl
            try simp only [Act.put, List.setIfInBounds_toArray, List.set_cons_zero, List.set_cons_succ]
            refine wpAnyH_take (i := 11) (oi := ⟨_, _, _, _, _, _⟩) (v := ?_) rfl (by kernel_rfl) (by kernel_rfl) (by kernel_rfl) (fun _ _ _ h => h) (Or.inl ⟨by rfl, ?_⟩) (by assumption) ?_
            rotate_left 1
            · intro W' hSw
              obtain ⟨hS1, hS2, hS3⟩ := hSw
              go_simp
              try with_reducible rfl
            try simp only [Act.put, List.setIfInBounds_toArray, List.set_cons_zero, List.set_cons_succ]
            refine wpAnyH_take (i := 12) (oi := ⟨_, _, _, _, _, _⟩) (v := ?_) rfl (by kernel_rfl) (by kernel_rfl) (by kernel_rfl) (fun _ _ _ h => h) (Or.inl ⟨by rfl, ?_⟩) (by assumption) ?_
            rotate_left 1
            · intro W' hSw
              obtain ⟨hS1, hS2, hS3⟩ := hSw
              go_simp
              try with_reducible rfl
            try simp only [Act.put, List.setIfInBounds_toArray, List.set_cons_zero, List.set_cons_succ]
            refine wpAnyH_take (i := 13) (oi := ⟨_, _, _, _, _, _⟩) (v := ?_) rfl (by kernel_rfl) (by kernel_rfl) (by kernel_rfl) (fun _ _ _ h => h) (Or.inl ⟨by rfl, ?_⟩) (by assumption) ?_
            rotate_left 1
            · intro W' hSw
              obtain ⟨hS1, hS2, hS3⟩ := hSw
              go_simp
              try with_reducible rfl
            try simp only [Act.put, List.setIfInBounds_toArray, List.set_cons_zero, List.set_cons_succ]
            refine wpAnyH_take (i := 14) (oi := ⟨_, _, _, _, _, _⟩) (v := ?_) rfl (by kernel_rfl) (by kernel_rfl) (by kernel_rfl) (fun _ _ _ h => h) (Or.inl ⟨by rfl, ?_⟩) (by assumption) ?_
            rotate_left 1
            · intro W' hSw
              obtain ⟨hS1, hS2, hS3⟩ := hSw
              go_simp
              try with_reducible rfl
            try simp only [Act.put, List.setIfInBounds_toArray, List.set_cons_zero, List.set_cons_succ]
            refine wpAnyH_take (i := 15) (oi := ⟨_, _, _, _, _, _⟩) (v := ?_) rfl (by kernel_rfl) (by kernel_rfl) (by kernel_rfl) (fun _ _ _ h => h) (Or.inl ⟨by rfl, ?_⟩) (by assumption) ?_
            rotate_left 1
            · intro W' hSw
              obtain ⟨hS1, hS2, hS3⟩ := hSw
              go_simp
              try with_reducible rfl
            try simp only [Act.put, List.setIfInBounds_toArray, List.set_cons_zero, List.set_cons_succ]
            refine wpAnyH_take (i := 16) (oi := ⟨_, _, _, _, _, _⟩) (v := ?_) rfl (by kernel_rfl) (by kernel_rfl) (by kernel_rfl) (fun _ _ _ h => h) (Or.inl ⟨by rfl, ?_⟩) (by assumption) ?_
            rotate_left 1
            · intro W' hSw
              obtain ⟨hS1, hS2, hS3⟩ := hSw
              go_simp
              try with_reducible rfl
            try simp only [Act.put, List.setIfInBounds_toArray, List.set_cons_zero, List.set_cons_succ]
            refine wpAnyH_take (i := 17) (oi := ⟨_, _, _, _, _, _⟩) (v := ?_) rfl (by kernel_rfl) (by kernel_rfl) (by kernel_rfl) (fun _ _ _ h => h) (Or.inl ⟨by rfl, ?_⟩) (by assumption) ?_
            rotate_left 1
            · intro W' hSw
              obtain ⟨hS1, hS2, hS3⟩ := hSw
              go_simp
              try with_reducible rfl
            try simp only [Act.put, List.setIfInBounds_toArray, List.set_cons_zero, List.set_cons_succ]
            refine wpAnyH_ready (rs := [18]) (by kernel_rfl) (by simp) ?_
            refine AllReadyH.cons (o := ⟨_, _, _, _, _, _⟩) rfl (fun K hK => ?_) AllReadyH.nil
            go_simp
            refine (same_any (W.drewN n).drew _ _ s.a t.a s.len t.len s.cap t.cap xi1 xj1 (show BytesAt _ ((W.drewN n).drew) _ _ _ _ from HSX.out) (show BytesAt _ ((W.drewN n).drew) _ _ _ _ from HTX.out)).mono ?_
            rintro e' W4 ⟨rfl, n2, rfl⟩
            obtain ⟨bb, hbb⟩ : ∃ bb, bb = decide (xi1 = xj1) := ⟨_, rfl⟩
            rw [← hbb]
            have HBB : Hid (bb = decide (xi1 = xj1)) := hbb
            clear hbb
            dsimp only
            refine hK.out _ _ ?_ (fun hHeld => ?_)
            · exact hHeld
            clear hK K
            try simp only [Act.put, List.setIfInBounds_toArray, List.set_cons_zero, List.set_cons_succ]
            refine wpAnyH_take (i := 19) (oi := ⟨_, _, _, _, _, _⟩) (v := ?_) rfl (by kernel_rfl) (by kernel_rfl) (by kernel_rfl) (fun _ _ _ h => h) (Or.inl ⟨by rfl, ?_⟩) (by assumption) ?_
            rotate_left 1
            · intro W' hSw
              obtain ⟨hS1, hS2, hS3⟩ := hSw
              go_simp
              try with_reducible rfl
            try simp only [Act.put, List.setIfInBounds_toArray, List.set_cons_zero, List.set_cons_succ]
            refine wpAnyH_take (i := 20) (oi := ⟨_, _, _, _, _, _⟩) (v := ?_) rfl (by kernel_rfl) (by kernel_rfl) (by kernel_rfl) (fun _ _ _ h => h) (Or.inl ⟨by rfl, ?_⟩) (by assumption) ?_
            rotate_left 1
            · intro W' hSw
              obtain ⟨hS1, hS2, hS3⟩ := hSw
              go_simp
              try with_reducible rfl
            try simp only [Act.put, List.setIfInBounds_toArray, List.set_cons_zero, List.set_cons_succ]
            refine wpAnyH_done (by kernel_rfl) ?_ _
            cases bb with
            | true =>
              go_wp2_with fail
              refine ⟨rfl, rfl, ?_, ?_⟩
              · refine ⟨rfl, rfl, rfl, rfl, j + 1, ex, by omega, by omega, ?_, rfl, ?_, n + 1 + n2, rfl⟩
                · show Value.int .i64 _ = _
                  go_num
                · show _ ↔ _
                  rw [collTo_step]
                  have hnp : ¬ Pair L i j := by
                    rintro ⟨_, x, y, hx, hy, h3, h4⟩
                    rw [HLi.out] at hx
                    rw [HLj.out] at hy
                    obtain rfl := Option.some.inj hx
                    obtain rfl := Option.some.inj hy
                    exact h4 (of_decide_eq_true HBB.out.symm)
                  rw [HEX3.out]
                  exact ⟨.inl, fun q => q.resolve_right hnp⟩
              · show m - (intOf (Value.int .i64 _)).toNat < m - (intOf (F3 13)).toNat
                rw [H13.out]
                simp [intOf]; omega
            | false =>
              go_wp2_with fail
              refine ⟨rfl, rfl, ?_, ?_⟩
              · refine ⟨rfl, rfl, rfl, rfl, j + 1, true, by omega, by omega, ?_, rfl, ?_, n + 1 + n2, rfl⟩
                · show Value.int .i64 _ = _
                  go_num
                · show _ ↔ _
                  rw [collTo_step]
                  exact ⟨fun _ => .inr ⟨hij, _, _, HLi.out, HLj.out, hed, of_decide_eq_false HBB.out.symm⟩, fun _ => rfl⟩
              · show m - (intOf (Value.int .i64 _)).toNat < m - (intOf (F3 13)).toNat
                rw [H13.out]
                simp [intOf]; omega
          · have hedd : decide (xi2 = xj2) = false := decide_eq_false hed
            go_wp2_with fail
            refine wp_region_held_drew (S := fun W' => blk W' gs = some Cs ∧ blk W' gi = some Ci ∧ True) (by kernel_rfl) ⟨hCs, hCi, trivial⟩ (fun hHeld => ?_)
            refine wpAnyH_take (i := 0) (oi := ⟨_, _, _, _, _, _⟩) (v := ?_) rfl (by kernel_rfl) (by kernel_rfl) (by kernel_rfl) (fun _ _ _ h => h) (Or.inl ⟨by rfl, ?_⟩) (by assumption) ?_
            rotate_left 1
            · intro W' hSw
              obtain ⟨hS1, hS2, hS3⟩ := hSw
              go_simp
              try with_reducible rfl
            try simp only [Act.put, List.setIfInBounds_toArray, List.set_cons_zero, List.set_cons_succ]
            refine wpAnyH_take (i := 1) (oi := ⟨_, _, _, _, _, _⟩) (v := ?_) rfl (by kernel_rfl) (by kernel_rfl) (by kernel_rfl) (fun _ _ _ h => h) (Or.inl ⟨by rfl, ?_⟩) (by assumption) ?_
            rotate_left 1
            · intro W' hSw
              obtain ⟨hS1, hS2, hS3⟩ := hSw
              go_simp
              try with_reducible rfl
            try simp only [Act.put, List.setIfInBounds_toArray, List.set_cons_zero, List.set_cons_succ]
            refine wpAnyH_take (i := 2) (oi := ⟨_, _, _, _, _, _⟩) (v := ?_) rfl (by kernel_rfl) (by kernel_rfl) (by kernel_rfl) (fun _ _ _ h => h) (Or.inl ⟨by rfl, ?_⟩) (by assumption) ?_
            rotate_left 1
            · intro W' hSw
              obtain ⟨hS1, hS2, hS3⟩ := hSw
              go_simp
              try with_reducible rfl
            try simp only [Act.put, List.setIfInBounds_toArray, List.set_cons_zero, List.set_cons_succ]
            refine wpAnyH_take (i := 3) (oi := ⟨_, _, _, _, _, _⟩) (v := ?_) rfl (by kernel_rfl) (by kernel_rfl) (by kernel_rfl) (fun _ _ _ h => h) (Or.inl ⟨by rfl, ?_⟩) (by assumption) ?_
            rotate_left 1
            · intro W' hSw
              obtain ⟨hS1, hS2, hS3⟩ := hSw
              go_simp
              try with_reducible rfl
            try simp only [Act.put, List.setIfInBounds_toArray, List.set_cons_zero, List.set_cons_succ]
            refine wpAnyH_take (i := 4) (oi := ⟨_, _, _, _, _, _⟩) (v := ?_) rfl (by kernel_rfl) (by kernel_rfl) (by kernel_rfl) (fun _ _ _ h => h) (Or.inl ⟨by rfl, ?_⟩) (by assumption) ?_
            rotate_left 1
            · intro W' hSw
              obtain ⟨hS1, hS2, hS3⟩ := hSw
              go_simp
              try with_reducible rfl
            try simp only [Act.put, List.setIfInBounds_toArray, List.set_cons_zero, List.set_cons_succ]
            refine wpAnyH_take (i := 5) (oi := ⟨_, _, _, _, _, _⟩) (v := ?_) rfl (by kernel_rfl) (by kernel_rfl) (by kernel_rfl) (fun _ _ _ h => h) (Or.inl ⟨by rfl, ?_⟩) (by assumption) ?_
            rotate_left 1
            · intro W' hSw
              obtain ⟨hS1, hS2, hS3⟩ := hSw
              go_simp
              try with_reducible rfl
            try simp only [Act.put, List.setIfInBounds_toArray, List.set_cons_zero, List.set_cons_succ]
            refine wpAnyH_take (i := 6) (oi := ⟨_, _, _, _, _, _⟩) (v := ?_) rfl (by kernel_rfl) (by kernel_rfl) (by kernel_rfl) (fun _ _ _ h => h) (Or.inl ⟨by rfl, ?_⟩) (by assumption) ?_
            rotate_left 1
            · intro W' hSw
              obtain ⟨hS1, hS2, hS3⟩ := hSw
              go_simp
              try with_reducible rfl
            try simp only [Act.put, List.setIfInBounds_toArray, List.set_cons_zero, List.set_cons_succ]
            refine wpAnyH_take (i := 7) (oi := ⟨_, _, _, _, _, _⟩) (v := ?_) rfl (by kernel_rfl) (by kernel_rfl) (by kernel_rfl) (fun _ _ _ h => h) (Or.inl ⟨by rfl, ?_⟩) (by assumption) ?_
            rotate_left 1
            · intro W' hSw
              obtain ⟨hS1, hS2, hS3⟩ := hSw
              go_simp
              try with_reducible rfl
            try simp only [Act.put, List.setIfInBounds_toArray, List.set_cons_zero, List.set_cons_succ]
            refine wpAnyH_take (i := 8) (oi := ⟨_, _, _, _, _, _⟩) (v := ?_) rfl (by kernel_rfl) (by kernel_rfl) (by kernel_rfl) (fun _ _ _ h => h) (Or.inl ⟨by rfl, ?_⟩) (by assumption) ?_
            rotate_left 1
            · intro W' hSw
              obtain ⟨hS1, hS2, hS3⟩ := hSw
              go_simp
              try with_reducible rfl
            try simp only [Act.put, List.setIfInBounds_toArray, List.set_cons_zero, List.set_cons_succ]
            refine wpAnyH_take (i := 9) (oi := ⟨_, _, _, _, _, _⟩) (v := ?_) rfl (by kernel_rfl) (by kernel_rfl) (by kernel_rfl) (fun _ _ _ h => h) (Or.inl ⟨by rfl, ?_⟩) (by assumption) ?_
            rotate_left 1
            · intro W' hSw
              obtain ⟨hS1, hS2, hS3⟩ := hSw
              go_simp
              try with_reducible rfl
            try simp only [Act.put, List.setIfInBounds_toArray, List.set_cons_zero, List.set_cons_succ]
            refine wpAnyH_take (i := 10) (oi := ⟨_, _, _, _, _, _⟩) (v := undef) rfl (by kernel_rfl) (by kernel_rfl) (by kernel_rfl) (fun _ _ _ h => h) (Or.inr ⟨by rfl, rfl⟩) (by assumption) ?_
            try simp only [Act.put, List.setIfInBounds_toArray, List.set_cons_zero, List.set_cons_succ]
            refine wpAnyH_take (i := 11) (oi := ⟨_, _, _, _, _, _⟩) (v := undef) rfl (by kernel_rfl) (by kernel_rfl) (by kernel_rfl) (fun _ _ _ h => h) (Or.inr ⟨by rfl, rfl⟩) (by assumption) ?_
            try simp only [Act.put, List.setIfInBounds_toArray, List.set_cons_zero, List.set_cons_succ]
            refine wpAnyH_take (i := 12) (oi := ⟨_, _, _, _, _, _⟩) (v := undef) rfl (by kernel_rfl) (by kernel_rfl) (by kernel_rfl) (fun _ _ _ h => h) (Or.inr ⟨by rfl, rfl⟩) (by assumption) ?_
            try simp only [Act.put, List.setIfInBounds_toArray, List.set_cons_zero, List.set_cons_succ]
            refine wpAnyH_take (i := 13) (oi := ⟨_, _, _, _, _, _⟩) (v := undef) rfl (by kernel_rfl) (by kernel_rfl) (by kernel_rfl) (fun _ _ _ h => h) (Or.inr ⟨by rfl, rfl⟩) (by assumption) ?_
            try simp only [Act.put, List.setIfInBounds_toArray, List.set_cons_zero, List.set_cons_succ]
            refine wpAnyH_take (i := 14) (oi := ⟨_, _, _, _, _, _⟩) (v := undef) rfl (by kernel_rfl) (by kernel_rfl) (by kernel_rfl) (fun _ _ _ h => h) (Or.inr ⟨by rfl, rfl⟩) (by assumption) ?_
            try simp only [Act.put, List.setIfInBounds_toArray, List.set_cons_zero, List.set_cons_succ]
            refine wpAnyH_take (i := 15) (oi := ⟨_, _, _, _, _, _⟩) (v := undef) rfl (by kernel_rfl) (by kernel_rfl) (by kernel_rfl) (fun _ _ _ h => h) (Or.inr ⟨by rfl, rfl⟩) (by assumption) ?_
            try simp only [Act.put, List.setIfInBounds_toArray, List.set_cons_zero, List.set_cons_succ]
            refine wpAnyH_take (i := 16) (oi := ⟨_, _, _, _, _, _⟩) (v := undef) rfl (by kernel_rfl) (by kernel_rfl) (by kernel_rfl) (fun _ _ _ h => h) (Or.inr ⟨by rfl, rfl⟩) (by assumption) ?_
            try simp only [Act.put, List.setIfInBounds_toArray, List.set_cons_zero, List.set_cons_succ]
            refine wpAnyH_take (i := 17) (oi := ⟨_, _, _, _, _, _⟩) (v := undef) rfl (by kernel_rfl) (by kernel_rfl) (by kernel_rfl) (fun _ _ _ h => h) (Or.inr ⟨by rfl, rfl⟩) (by assumption) ?_
            try simp only [Act.put, List.setIfInBounds_toArray, List.set_cons_zero, List.set_cons_succ]
            refine wpAnyH_take (i := 18) (oi := ⟨_, _, _, _, _, _⟩) (v := undef) rfl (by kernel_rfl) (by kernel_rfl) (by kernel_rfl) (fun _ _ _ h => h) (Or.inr ⟨by rfl, rfl⟩) (by assumption) ?_
            try simp only [Act.put, List.setIfInBounds_toArray, List.set_cons_zero, List.set_cons_succ]
            refine wpAnyH_take (i := 19) (oi := ⟨_, _, _, _, _, _⟩) (v := undef) rfl (by kernel_rfl) (by kernel_rfl) (by kernel_rfl) (fun _ _ _ h => h) (Or.inr ⟨by rfl, rfl⟩) (by assumption) ?_
            try simp only [Act.put, List.setIfInBounds_toArray, List.set_cons_zero, List.set_cons_succ]
            refine wpAnyH_take (i := 20) (oi := ⟨_, _, _, _, _, _⟩) (v := ?_) rfl (by kernel_rfl) (by kernel_rfl) (by kernel_rfl) (fun _ _ _ h => h) (Or.inl ⟨by rfl, ?_⟩) (by assumption) ?_
            rotate_left 1
            · intro W' hSw
              obtain ⟨hS1, hS2, hS3⟩ := hSw
              go_simp
              try with_reducible rfl
            try simp only [Act.put, List.setIfInBounds_toArray, List.set_cons_zero, List.set_cons_succ]
            refine wpAnyH_done (by kernel_rfl) ?_ _
            go_wp2_with fail
            refine ⟨rfl, rfl, ?_, ?_⟩
            · refine ⟨rfl, rfl, rfl, rfl, j + 1, ex, by omega, by omega, ?_, rfl, ?_, n + 1, rfl⟩
              · show Value.int .i64 _ = _
                go_num
              · show _ ↔ _
                rw [collTo_step]
                have hnp : ¬ Pair L i j := by
                  rintro ⟨_, x, y, hx, hy, h3, h4⟩
                  rw [HLi.out] at hx
                  rw [HLj.out] at hy
                  obtain rfl := Option.some.inj hx
                  obtain rfl := Option.some.inj hy
                  exact hed h3
                rw [HEX3.out]
                exact ⟨.inl, fun q => q.resolve_right hnp⟩
            · show m - (intOf (Value.int .i64 _)).toNat < m - (intOf (F3 13)).toNat
              rw [H13.out]
              simp [intOf]; omega
        · obtain rfl : j = m := by omega
          go_wp2_with fail
          refine ⟨rfl, rfl, ?_, ?_⟩
          · refine ⟨rfl, rfl, rfl, i + 1, ex, by omega, ?_, rfl, ?_, n, rfl⟩
            · show Value.int .i64 _ = _
              go_num
            · show _ ↔ _
              rw [HEX3.out, ← collTo_out, HML.out]
          · show j - (intOf (Value.int .i64 _)).toNat < j - (intOf (F2 12)).toNat
            rw [H12.out]
            simp [intOf]; omega
      · obtain rfl : i = m := by omega
        have hexf : ex = S.A.fd.isSome := by
          apply Bool.eq_iff_iff.2
          have h1 := HEX2.out
          have h2 := HML.out
          rw [h1, h2, collTo_all]
          exact HGD.out.found.symm
        have HPn : Hid (PlayAt w bp p S (W.drewN n)) := HP0.out.grow (extends_drewN (ext_Ext (Ext.refl _)) n)
        have HIn : Hid (InsI w (bp + 1) (W.drewN n) vi L) := HI0.out.grow (extends_drewN (ext_Ext (Ext.refl _)) n)
        have HSn : Hid (InsS (bp + 1) (W.drewN n) vs L) := HS0.out.grow (extends_drewN (ext_Ext (Ext.refl _)) n)
        obtain ⟨V, hV⟩ : ∃ V, V = W.drewN n := ⟨_, rfl⟩
        rw [← hV] at HPn HIn HSn ⊢
        clear hV HEX2 HP0 HI0 HS0 H12
        obtain ⟨ns, ix, hL⟩ := HPn.out.log
        have HL : Hid (LogOk (bp + 1) V p.log ns ix S.A) := hL
        have hns7 : ns.length ≤ 70000 := by have := hL.clen; have := HAL.out; omega
        have hbV : blk V bp = some (splice p.enc 212 p.log.enc) := by rw [log_eq]; exact HPn.out.blk
        have HFO : Hid (p.log.found = S.A.fd.isSome) := hL.fnd
        clear hL
        cases hfd : S.A.fd with
        | none =>
          have hexn : ex = false := by rw [hexf, hfd]; rfl
          subst hexn
          clear hexf
          go_wp2_with fail
          refine (witness_no V (bp + 1) bp 212 p.enc p.log ns ix S.A hbV (by rw [Player.length_enc]; omega) HL.out hfd).mono ?_
          rintro e V2 ⟨rfl, he2⟩
          have HP2 : Hid (PlayAt w bp p S (V2.alloc (.cells (arr u8v (Vector.replicate 32 (0 : UInt8))).toArray 31))) := HPn.out.grow (extends_alloc (ext_Ext he2) _)
          clear he2 hbV
          go_wp2_with fail
          refine (collided_any _ bp p HP2.out.blk).mono ?_
          rintro e V3 ⟨rfl, rfl⟩
          rw [HFO.out, hfd]
          go_wp2_with fail
          go_ret
          exact ⟨rfl, by rw [← hw]; exact HP2.out.ext⟩
        | some q =>
          obtain ⟨ci, cj⟩ := q
          have hexn : ex = true := by rw [hexf, hfd]; rfl
          subst hexn
          obtain ⟨x, y, hx, hy, hxy, hxny⟩ := HGD.out.yes ci cj hfd
          have hxL := (HGD.out.sub x).1 (List.mem_of_getElem? hx)
          have hyL := (HGD.out.sub y).1 (List.mem_of_getElem? hy)
          obtain ⟨x1, x2⟩ := x
          obtain ⟨y1, y2⟩ := y
          simp only at hxy hxny
          subst hxy
          have HXL : Hid ((x1, x2) ∈ L) := hxL
          have HYL : Hid ((y1, x2) ∈ L) := hyL
          clear hexf hxL hyL
          go_wp2_with fail
          refine (witness_yes V (bp + 1) bp 212 p.enc p.log ns ix S.A ci cj _ _ hbV (by rw [Player.length_enc]; omega) HL.out hfd hx hy hns7).mono ?_
          rintro e V2 ⟨v1, v2, rfl, ho1, ho2, he2⟩
          have hxl : x1.length ≤ 70000 := by
            obtain ⟨e, q1, q2, _⟩ := HL.out.ent (j := ci) (by rw [← HL.out.clen]; exact (List.getElem?_eq_some_iff.1 hx).1)
            rw [hx] at q1
            obtain rfl := Option.some.inj q1
            exact q2
          have hyl : y1.length ≤ 70000 := by
            obtain ⟨e, q1, q2, _⟩ := HL.out.ent (j := cj) (by rw [← HL.out.clen]; exact (List.getElem?_eq_some_iff.1 hy).1)
            rw [hy] at q1
            obtain rfl := Option.some.inj q1
            exact q2
          obtain ⟨a1, c1, rfl, hX1⟩ := own_bytes ho1 (by show x1.length < _; omega)
          obtain ⟨a2, c2, rfl, hX2⟩ := own_bytes ho2 (by show y1.length < _; omega)
          obtain ⟨l1, hl1⟩ : ∃ l1, l1 = x1.length := ⟨_, rfl⟩
          obtain ⟨l2, hl2⟩ : ∃ l2, l2 = y1.length := ⟨_, rfl⟩
          rw [← hl1] at hX1 ⊢
          rw [← hl2] at hX2 ⊢
          have hxa : V2.Extends (V2.alloc (.cells (arr u8v x2).toArray 31)) := extends_alloc (ext_Ext (Ext.refl _)) _
          obtain ⟨bz, hbz⟩ : ∃ bz, bz = V2.heap.size := ⟨_, rfl⟩
          have HXa : Hid (BytesAt (V2.alloc (.cells (arr u8v x2).toArray 31)).heap.size (V2.alloc (.cells (arr u8v x2).toArray 31)) a1 l1 c1 x1) := hX1.grow hxa
          have HXb : Hid (BytesAt (V2.alloc (.cells (arr u8v x2).toArray 31)).heap.size (V2.alloc (.cells (arr u8v x2).toArray 31)) a2 l2 c2 y1) := hX2.grow hxa
          have HP2 : Hid (PlayAt w bp p S (V2.alloc (.cells (arr u8v x2).toArray 31))) := HPn.out.grow (he2.trans hxa)
          have HI2 : Hid (InsI w (bp + 1) (V2.alloc (.cells (arr u8v x2).toArray 31)) vi L) := HIn.out.grow (he2.trans hxa)
          have HS2 : Hid (InsS (bp + 1) (V2.alloc (.cells (arr u8v x2).toArray 31)) vs L) := HSn.out.grow (he2.trans hxa)
          have HZ2 : blk (V2.alloc (.cells (arr u8v x2).toArray 31)) bz = some (arr u8v x2) := by rw [hbz, blk_alloc, if_pos rfl]
          have hviv : Sl.val vi = .slice vi.a i vi.cap := by rw [HML.out, ← HI2.out.len]; rfl
          have HVV : Hid (Sl.val vi = .slice vi.a i vi.cap) := hviv
          clear hviv hl1 hl2 ho1 ho2 he2 hbV hxa hX1 hX2 hx hy hxl hyl
          go_upto_region 33 with fail
          rw [← hbz]
          obtain ⟨V3, hV3⟩ : ∃ V3, V3 = V2.alloc (.cells (arr u8v x2).toArray 31) := ⟨_, rfl⟩
          rw [← hV3] at HXa HXb HP2 HI2 HS2 HZ2 ⊢
          clear hbz hV3
          go_wp2_with fail
          refine (collided_any V3 bp p HP2.out.blk).mono ?_
          rintro e V4 ⟨rfl, rfl⟩
          rw [HFO.out, hfd]
          go_wp2_with fail
          refine (same_any V4 _ _ a1 a2 l1 l2 c1 c2 x1 y1 HXa.out HXb.out).mono ?_
          rintro e V5 ⟨rfl, n5, rfl⟩
          rw [decide_eq_false hxny]
          have hx5 : V4.Extends (V4.drewN n5) := extends_drewN (ext_Ext (Ext.refl _)) n5
          have HP5 : Hid (PlayAt w bp p S (V4.drewN n5)) := HP2.out.grow hx5
          have HI5 : Hid (InsI w (bp + 1) (V4.drewN n5) vi L) := HI2.out.grow hx5
          have HS5 : Hid (InsS (bp + 1) (V4.drewN n5) vs L) := HS2.out.grow hx5
          have HX5 : Hid (BytesAt (V4.drewN n5).heap.size (V4.drewN n5) a1 l1 c1 x1) := HXa.out.grow hx5
          have HY5 : Hid (BytesAt (V4.drewN n5).heap.size (V4.drewN n5) a2 l2 c2 y1) := HXb.out.grow hx5
          have HZ5 : blk (V4.drewN n5) bz = some (arr u8v x2) := HZ2
          obtain ⟨V6, hV6⟩ : ∃ V6, V6 = V4.drewN n5 := ⟨_, rfl⟩
          rw [← hV6] at HP5 HI5 HS5 HX5 HY5 HZ5 ⊢
          clear hV6 HP2 HI2 HS2 HXa HXb HZ2 hx5
          go_wp2_with fail
          have hwn := wasNoted_any w V6 (bp + 1) vi vs L _ a1 l1 c1 x1 x2 HP5.out.ext HI5.out HS5.out HX5.out HXL.out (by have := HML.out; omega)
          rw [HVV.out] at hwn
          refine hwn.mono ?_
          clear hwn
          rintro e V7 ⟨rfl, he7⟩
          have hx7 : V6.Extends V7 := ext_Ext he7
          have HP7 : Hid (PlayAt w bp p S V7) := HP5.out.grow hx7
          have HI7 : Hid (InsI w (bp + 1) V7 vi L) := HI5.out.grow hx7
          have HS7 : Hid (InsS (bp + 1) V7 vs L) := HS5.out.grow hx7
          have HY7 : Hid (BytesAt V7.heap.size V7 a2 l2 c2 y1) := HY5.out.grow hx7
          have HZ7 : blk V7 bz = some (arr u8v x2) := (hx7.blk (blk_lt HZ5)).trans HZ5
          clear he7 hx7 HP5 HI5 HS5 HX5 HY5 HZ5
          go_wp2_with fail
          have hwn := wasNoted_any w V7 (bp + 1) vi vs L _ a2 l2 c2 y1 x2 HP7.out.ext HI7.out HS7.out HY7.out HYL.out (by have := HML.out; omega)
          rw [HVV.out] at hwn
          refine hwn.mono ?_
          clear hwn
          rintro e V8 ⟨rfl, he8⟩
          have HP8 : Hid (PlayAt w bp p S V8) := HP7.out.grow (ext_Ext he8)
          clear he8
          go_wp2_with fail
          go_ret
          exact ⟨rfl, by rw [← hw]; exact HP8.out.ext⟩
end Go.Proofs.Qxb6500785a
