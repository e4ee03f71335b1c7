import Derived.Test.Qxb6500785aLogB3
import Derived.Test.Qxb6500785aKnown
import Derived.Deep.RegionHeld
import Derived.Deep.CutRange
import Derived.Laws.ResultCell
import Derived.Laws.Rows
set_option linter.unusedSimpArgs false
set_option linter.unusedVariables false
namespace Go.Proofs.Qxb6500785a
open Go.RowKit Go.Blk
attribute [local go_sem ↓] execOp_load execOp_store execOp_alloc
attribute [local go_sem] Try.ld24 Try.st24 Try.ld5 Try.st5 Try.ld3 Try.st3 Try.ld27 Try.st27 Try.ld32 Try.st32 Try.ld33 Try.st33 Try.ld4 Try.st4 Try.ld41 Try.st41 Try.ld40 Try.st40 Try.ld42 Try.st42 Try.ld47 Try.st47 Try.ld48 Try.st48 Try.ld57 Try.st57 Try.ld58 Try.st58 Try.ld2 Try.st2 Try.ld9 Try.st9 Try.ld12 Try.st12 Try.ld21 Try.st21 Try.ld22 Try.st22 Try.ld46 Try.st46 Try.ld83 Try.st83 Try.ld95 Try.st95 Try.ld99 Try.st99 Try.ld106 Try.st106 Try.ld108 Try.st108 Try.ld134 Try.st134 Try.ld25 Try.st25 Try.ld26 Try.st26 Try.ld34 Try.st34 Try.ld31 Try.st31 Try.ld30 Try.st30 Try.ld74 Try.st74 Try.ld96 Try.st96 Try.ld101 Try.st101 Try.ld115 Try.st115 Try.ld116 Try.st116 Try.ld120 Try.st120 Try.ld121 Try.st121 Try.ld122 Try.st122 Try.ld29 Try.st29 Try.ld36 Try.st36 Try.ld38 Try.st38 Try.ld44 Try.st44 Try.ld50 Try.st50 Try.ld60 Try.st60 Try.ld110 Try.st110 Try.al25 Try.al26 Try.al34 Try.al31 Try.al30 Try.al74 Try.al96 Try.al101 Try.al115 Try.al116 Try.al120 Try.al121 Try.al122 Try.al29 Try.al36 Try.al38 Try.al44 Try.al50 Try.al60 Try.al110
attribute [local go_sem] Hasher.length_enc Hasher.ok_enc Hasher.all_get Hasher.all_set Hasher.state_get Hasher.state_set Hasher.block_get Hasher.block_set Hasher.fill_get Hasher.fill_set Hasher.length_get Hasher.length_set GLog.length_enc GLog.ok_enc GLog.all_get GLog.all_set GLog.entries_get GLog.entries_set GLog.shelves_get GLog.shelves_set GLog.first_get GLog.first_set GLog.second_get GLog.second_set GLog.found_get GLog.found_set Player.length_enc Player.ok_enc Player.all_get Player.all_set Player.hand_get Player.hand_set Player.aside_get Player.aside_set Player.prev_get Player.prev_set Player.last_get Player.last_set Player.log_get Player.log_set Player.hand_state_get Player.hand_state_set Player.hand_block_get Player.hand_block_set Player.hand_fill_get Player.hand_fill_set Player.hand_length_get Player.hand_length_set Player.aside_state_get Player.aside_state_set Player.aside_block_get Player.aside_block_set Player.aside_fill_get Player.aside_fill_set Player.aside_length_get Player.aside_length_set Player.log_entries_get Player.log_entries_set Player.log_shelves_get Player.log_shelves_set Player.log_first_get Player.log_first_set Player.log_second_get Player.log_second_set Player.log_found_get Player.log_found_set GOp.length_enc GOp.ok_enc GOp.all_get GOp.all_set GOp.kind_get GOp.kind_set GOp.data_get GOp.data_set GOp.cut_get GOp.cut_set GOp.n_get GOp.n_set GOp.b_get GOp.b_set GOp.v_get GOp.v_set GOp.dom_get GOp.dom_set GOp.sum_get GOp.sum_set Answer.length_enc Answer.ok_enc Answer.all_get Answer.all_set Answer.code_get Answer.code_set Answer.sum_get Answer.sum_set Answer.len_get Answer.len_set Answer.mark_get Answer.mark_set Answer.noted_get Answer.noted_set Answer.collided_get Answer.collided_set GState.length_enc GState.ok_enc GState.all_get GState.all_set GState.hand_get GState.hand_set GState.aside_get GState.aside_set GState.prev_get GState.prev_set GState.last_get GState.last_set GState.inputs_get GState.inputs_set GState.sums_get GState.sums_set GState.collided_get GState.collided_set GState.older_get GState.older_set GState.younger_get GState.younger_set Noted.length_enc Noted.ok_enc Noted.all_get Noted.all_set Noted.input_get Noted.input_set Noted.sum_get Noted.sum_set
attribute [local go_sem] size_put size_ext blk_put free_put blk_alloc free_alloc blk_drew free_drew blk_ext free_ext lookOr_some putOr_some segAt_some cellAt_some storeIn_some put_put put_alloc_new length_arr ok_arr_u8 ok_arr_u32 ok_arr_u64 ok_arr_i64 ok_arr_sl cellsV_agg cellsV_int cellsV_bool cellsV_string cellsV_pointer cellsV_slice cellsV_sl ok_int ok_bool ok_string ok_pointer ok_slice ok_sl toList_arr seg_arr set_arr nth_splice nth_splice0 seg_splice seg_splice0 splice_splice splice_splice0 length_splice_if
attribute [local go_sem] w32_and w32_or w32_xor w32_add w32_or8 w32_not w8_and w8_or w8_xor w32_shr2 w32_shl2 w32_shr3 w32_shl3 w32_shr6 w32_shl6 w32_shr7 w32_shl7 w32_shr8 w32_shl8 w32_shr10 w32_shl10 w32_shr11 w32_shl11 w32_shr13 w32_shl13 w32_shr14 w32_shl14 w32_shr15 w32_shl15 w32_shr16 w32_shl16 w32_shr17 w32_shl17 w32_shr18 w32_shl18 w32_shr19 w32_shl19 w32_shr21 w32_shl21 w32_shr22 w32_shl22 w32_shr24 w32_shl24 w32_shr25 w32_shl25 w32_shr26 w32_shl26 w32_shr30 w32_shl30 w8_shl24 w8_shl16 w8_shl8 v32_add v32_byte w32_byte0 v8_shl24 v8_shl16 v8_shl8 v32_shr2 v32_shl2 v32_shr3 v32_shl3 v32_shr6 v32_shl6 v32_shr7 v32_shl7 v32_shr8 v32_shl8 v32_shr10 v32_shl10 v32_shr11 v32_shl11 v32_shr13 v32_shl13 v32_shr14 v32_shl14 v32_shr15 v32_shl15 v32_shr16 v32_shl16 v32_shr17 v32_shl17 v32_shr18 v32_shl18 v32_shr19 v32_shl19 v32_shr21 v32_shl21 v32_shr22 v32_shl22 v32_shr24 v32_shl24 v32_shr25 v32_shl25 v32_shr26 v32_shl26 v32_shr30 v32_shl30
attribute [local go_sem ↓] execOp_build
attribute [local go_sem] run_build_kv run_build_iv nth_arr_u32 put_arr_u32 nth_arr_u8 put_arr_u8 v32_of8 blk_drewN free_drewN put_drewN put_drew blk_raw free_raw
attribute [local go_sem ↓] execOp_slice execOp_copy
attribute [local go_sem] Try.sl40lo Try.sl40hi Try.sl26lo Try.sl26hi Try.sl26 Try.sl96lo Try.sl96hi Try.sl96 Try.sl31lo Try.sl31 Try.sl120 Try.sl121 Try.sl121lo Try.sl121hi Try.cp40 copyOr_some copyIn_some srcB_drew srcB_drewN srcB_raw length_bv one_bv
attribute [local go_sem] Hasher.length_zero
attribute [local go_sem] Try.cpv copyOrV_some
attribute [local go_sem ↓] execOp_index execOp_convert execOp_box execOp_convert9
attribute [local go_sem] index_hex box_run conv_bytes eq31
attribute [local go_sem] build31
def TyAt (W : World) (c : Nat) (t : TypeId) : Prop := ∃ cur fz, W.heap[c]? = some (.cells cur t fz)
theorem TyAt.put {W : World} {c : Nat} {t : TypeId} (h : TyAt W c t) (b : Nat) (X : List Value) : TyAt (put W b X) c t := by
  obtain ⟨cur, fz, h⟩ := h
  unfold TyAt
  rw [heap_put]
  by_cases e : c = b
  · subst e
    rw [if_pos rfl, h]
    exact ⟨_, _, rfl⟩
  · rw [if_neg e]
    exact ⟨_, _, h⟩
theorem TyAt.of_heap {W W' : World} {c : Nat} {t : TypeId} (h : TyAt W c t) (e : W'.heap[c]? = W.heap[c]?) : TyAt W' c t := by
  obtain ⟨cur, fz, h⟩ := h
  exact ⟨cur, fz, e.trans h⟩
theorem TyAt.lt {W : World} {c : Nat} {t : TypeId} (h : TyAt W c t) : c < W.heap.size := by
  obtain ⟨cur, fz, h⟩ := h
  exact (Array.getElem?_eq_some_iff.1 h).1
theorem TyAt.out {W W' : World} {c b : Nat} {t : TypeId} {X : List Value} (h : TyAt W c t) (ho : Out W W' b X) : TyAt W' c t := by
  obtain ⟨G, n, rfl⟩ := ho
  exact (h.put b X).of_heap ((ext_Ext ⟨G, n, rfl⟩).block c (by rw [size_put]; exact h.lt))
theorem TyAt.not_log {W : World} {c : Nat} {t : TypeId} (h : TyAt W c t) (ht : ¬ (t = 110 ∨ t = 3 ∨ t = 5)) : ¬ logTy W c := by
  obtain ⟨cur, fz, h⟩ := h
  exact not_logTy h ht
/-- The log's rows (not the inputs it keeps). -/
def rowTy (W : World) (k : Nat) : Prop := ∃ cur t fz, W.heap[k]? = some (.cells cur t fz) ∧ (t = 110 ∨ t = 3)
theorem TyAt.not_row {W : World} {c : Nat} {t : TypeId} (h : TyAt W c t) (ht : ¬ (t = 110 ∨ t = 3)) : ¬ rowTy W c := by
  obtain ⟨cur, fz, h⟩ := h
  rintro ⟨cur', t', fz', h', ht'⟩
  rw [h] at h'
  injection h' with h'
  injection h' with _ h2 _
  subst h2
  exact ht ht'
/-- Every block but bp and the log's rows stays. -/
def Beside (bp : Nat) (w w' : World) : Prop := ∀ c, c < w.heap.size → c ≠ bp → ¬ rowTy w c → w'.heap[c]? = w.heap[c]?
theorem Beside.of_ext {bp : Nat} {w W : World} (h : w.Extends W) : Beside bp w W := fun c hc _ _ => h.block c hc
theorem Beside.put_new {bp : Nat} {w W : World} (h : Beside bp w W) (c : Nat) (X : List Value) (hc : w.heap.size ≤ c) : Beside bp w (Blk.put W c X) := fun k hk a b => by
  rw [heap_put, if_neg (by omega)]
  exact h k hk a b
theorem Beside.out {bp : Nat} {w W W' : World} {X : List Value} (h : Beside bp w W) (hs : w.heap.size ≤ W.heap.size) (ho : Out W W' bp X) : Beside bp w W' := fun k hk a b => (heap_out ho (Nat.lt_of_lt_of_le hk hs) a).trans (h k hk a b)
theorem Beside.grow {bp : Nat} {w W W' : World} (h : Beside bp w W) (hs : w.heap.size ≤ W.heap.size) (he : W.Extends W') : Beside bp w W' := fun k hk a b => (he.block k (Nat.lt_of_lt_of_le hk hs)).trans (h k hk a b)
/-- The player's plain state. -/
structure PS where
  mh : List UInt8
  ma : List UInt8
  prev : Vector UInt8 32
  last : Vector UInt8 32
  A : ALog
structure PlayAt (w : World) (bp : Nat) (p : Player) (S : PS) (X : Nat → Prop) (W : World) : Prop where
  blk : Blk.blk W bp = some p.enc
  free : Blk.free W bp = true
  rh : Rep p.hand S.mh
  ra : Rep p.aside S.ma
  pv : p.prev = S.prev
  ls : p.last = S.last
  log : ∃ ns ix, LogOk (bp + 1) W p.log ns ix S.A X
  base : w.heap.size ≤ bp
  ext : w.Extends W
theorem PlayAt.lt {w : World} {bp : Nat} {p : Player} {S : PS} {X : Nat → Prop} {W : World} (h : PlayAt w bp p S X W) : bp < W.heap.size := blk_lt h.blk
theorem PlayAt.grow {w : World} {bp : Nat} {p : Player} {S : PS} {X : Nat → Prop} {W W' : World} (h : PlayAt w bp p S X W) (he : W.Extends W') : PlayAt w bp p S X W' := by
  obtain ⟨nx, ix, hL⟩ := h.log
  exact ⟨(he.blk h.lt).trans h.blk, (free_of_heap (he.block _ h.lt)).trans h.free, h.rh, h.ra, h.pv, h.ls, ⟨nx, ix, hL.grow he⟩, h.base, h.ext.trans he⟩
theorem extends_of {w W W' : World} {bp : Nat} (h : w.Extends W) (hb : w.heap.size ≤ bp) (h1 : W'.os = W.os) (h2 : W'.tape = W.tape) (h3 : W'.output = W.output) (h4 : W.heap.size ≤ W'.heap.size) (h5 : ∀ k, k < bp → k < W.heap.size → W'.heap[k]? = W.heap[k]?) : w.Extends W' := by
  have hk : ∀ i, i < w.heap.size → W'.heap[i]? = w.heap[i]? := fun i hi => (h5 i (by omega) (Nat.lt_of_lt_of_le hi h.size)).trans (h.block i hi)
  exact ⟨h1.trans h.os, h2.trans h.tape, h3.trans h.output, Nat.le_trans h.size h4, fun a ha => World.cell?_of_block (hk _ ha), fun a ha => World.frozen?_of_block (hk _ ha), hk⟩
theorem PlayAt.step {w : World} {bp : Nat} {p p' : Player} {S S' : PS} {X : Nat → Prop} {W W' : World} (h : PlayAt w bp p S X W) (ho : Out W W' bp p'.enc) (r1 : Rep p'.hand S'.mh) (r2 : Rep p'.aside S'.ma) (hl : p'.log = p.log) (h3 : p'.prev = S'.prev) (h4 : p'.last = S'.last) (hA : S'.A = S.A) : PlayAt w bp p' S' X W' := by
  have hb := h.base
  obtain ⟨nx, ix, hL⟩ := h.log
  refine ⟨ho.blk_at h.blk, (ho.free h.lt).trans h.free, r1, r2, h3, h4, ⟨nx, ix, by rw [hl, hA]; exact hL.side (Side.out ho (.inl (Nat.lt_succ_self _)))⟩, h.base, ?_⟩
  have h5 := ho
  obtain ⟨G, n, e⟩ := h5
  exact extends_of h.ext hb (by rw [e]; rfl) (by rw [e]; rfl) (by rw [e]; rfl) ho.size fun k hk hk2 => heap_out ho hk2 (by omega)
theorem PlayAt.put {w : World} {bp : Nat} {p : Player} {S : PS} {X : Nat → Prop} {W : World} (h : PlayAt w bp p S X W) (c : Nat) (Y : List Value) (hc : bp < c) (hy : ¬ logTy W c) : PlayAt w bp p S X (Blk.put W c Y) := by
  have hb := h.base
  obtain ⟨nx, ix, hL⟩ := h.log
  refine ⟨?_, by rw [free_put]; exact h.free, h.rh, h.ra, h.pv, h.ls, ⟨nx, ix, hL.side (Side.put _ _ _ _ (.inr hy))⟩, h.base, ?_⟩
  · rw [blk_put, if_neg (by omega)]; exact h.blk
  · exact extends_of h.ext hb rfl rfl rfl (by rw [size_put]; exact Nat.le_refl _) fun k hk hk2 => by rw [heap_put, if_neg (by omega)]
theorem log_eq (p : Player) : splice p.enc 212 p.log.enc = p.enc := Player.log_set p p.log
theorem PlayAt.note {w : World} {bp : Nat} {p : Player} {S : PS} {X : Nat → Prop} {ns ns' : List Noted} {A' : ALog} {W W' : World} {l' : GLog} {ix' : Nat → List Nat} (h : PlayAt w bp p S X W) (ho : NoteOut (bp + 1) bp 212 p.enc p.log ns W W' l' ns' ix' A' X) : PlayAt w bp { p with log := l' } { S with A := A' } X W' := by
  have hb := h.base
  obtain ⟨nx, ix, hL⟩ := h.log
  obtain ⟨h1, h2, h3, h4, h5, h6, h7, h8, h9⟩ := ho
  rw [Player.log_set] at h1
  refine ⟨h1, h2, h.rh, h.ra, h.pv, h.ls, ⟨ns', ix', h3⟩, h.base, ?_⟩
  exact extends_of h.ext hb h6 h7 h8 h5 fun k hk hk2 => h9 k hk2 (by omega) (fun e => by have := (row_at hL.rowE k e).1; omega) (fun s hs e => by have := (row_at (hL.rowS s hs) k e).1; omega)
/-- What lies behind the log's own rows stays. -/
theorem PlayAt.aside_of {w : World} {bp : Nat} {p : Player} {S : PS} {X : Nat → Prop} {ns ns' : List Noted} {A' : ALog} {V W W' : World} {l' : GLog} {ix' : Nat → List Nat} (h : PlayAt w bp p S X V) (ho : NoteOut (bp + 1) bp 212 p.enc p.log ns W W' l' ns' ix' A' X) : ∀ c, V.heap.size ≤ c → c < W.heap.size → W'.heap[c]? = W.heap[c]? := by
  obtain ⟨nx, ix, hL⟩ := h.log
  have hlt := h.lt
  exact fun c hc hc2 => ho.2.2.2.2.2.2.2.2 c hc2 (by omega) (fun e => by have := (row_at hL.rowE c e).2.1; omega) (fun s hs e => by have := (row_at (hL.rowS s hs) c e).2.1; omega)
theorem PlayAt.beside_of {w : World} {bp : Nat} {p : Player} {S : PS} {X : Nat → Prop} {ns ns' : List Noted} {A' : ALog} {V W W' : World} {l' : GLog} {ix' : Nat → List Nat} (h : PlayAt w bp p S X V) (hv : V.Extends W) (ho : NoteOut (bp + 1) bp 212 p.enc p.log ns W W' l' ns' ix' A' X) : Beside bp V W' := by
  obtain ⟨nx, ix, hL⟩ := h.log
  have hlt := h.lt
  exact fun c hc a b => (ho.2.2.2.2.2.2.2.2 c (Nat.lt_of_lt_of_le hc hv.size) a (fun e => by obtain ⟨_, _, c1, f1, h1⟩ := row_at hL.rowE c e; exact b ⟨c1, _, f1, h1, .inl rfl⟩) (fun s hs e => by obtain ⟨_, _, c1, f1, h1⟩ := row_at (hL.rowS s hs) c e; exact b ⟨c1, _, f1, h1, by exact .inr rfl⟩)).trans (hv.block c hc)
set_option maxRecDepth 20000 in
set_option maxHeartbeats 2000000 in
theorem step_11 (w0 w : World) (bp : Nat) (p : Player) (g : GOp) (S : PS) (X : Nat → Prop) (hXw : ∀ k, X k → k < w.heap.size) (n : Nat) (hP : PlayAt w0 bp p S X w) (hk : g.kind = 11) (hn : g.n = (n : Int)) (hn10 : n ≤ 10) :
    Calls Try.prog 15 #[.pointer (some ⟨bp, 0, none⟩), .agg g.enc.toArray] w fun e w' => ∃ p' : Player, e = .returned (.agg (stepAns 0 (emptyR n) 0 p').enc.toArray) ∧ PlayAt w0 bp p' ({ S with prev := S.last, last := emptyR n } : PS) X w' ∧ Beside bp w w' := by
  have HP : Hid (PlayAt w0 bp p S X w) := hP
  have HXW : Hid (∀ k, X k → k < w.heap.size) := hXw
  clear hXw
  have hlt := hP.lt
  clear hP
  go_enter Try.func15, Try.ntmps15
  go_upto_region 4 with fail
  obtain ⟨bo, hbo⟩ : ∃ bo, bo = w.heap.size := ⟨_, rfl⟩
  rw [← hbo]
  refine wp_world (fun W => blk W bp = some p.enc ∧ free W bp = true ∧ blk W bo = some g.enc ∧ blk W (bo + 1) = some Answer.zero.enc ∧ free W (bo + 1) = true ∧ blk W (bo + 1 + 1) = some Answer.zero.enc ∧ free W (bo + 1 + 1) = true ∧ bo + 2 < W.heap.size ∧ Hid (w.Extends W) ∧ Hid (TyAt W (bo + 1) 50 ∧ TyAt W (bo + 1 + 1) 50)) ⟨?_, ?_, ?_, ?_, ?_, ?_, ?_, ?_, extends_alloc (extends_alloc (extends_alloc (ext_Ext (Ext.refl w)) _) _) _, ?_, ?_⟩ ?_
  · rw [blk_alloc, if_neg (by simp only [World.size_alloc]; omega), blk_alloc, if_neg (by simp only [World.size_alloc]; omega), blk_alloc, if_neg (by omega)]; exact HP.out.blk
  · rw [free_alloc, if_neg (by simp only [World.size_alloc]; omega), free_alloc, if_neg (by simp only [World.size_alloc]; omega), free_alloc, if_neg (by omega)]; exact HP.out.free
  · rw [hbo, blk_alloc, if_neg (by simp only [World.size_alloc]; omega), blk_alloc, if_neg (by simp only [World.size_alloc]; omega), blk_alloc, if_pos rfl]
  · rw [hbo, blk_alloc, if_neg (by simp only [World.size_alloc]; omega), blk_alloc, if_pos (by simp only [World.size_alloc])]
  · rw [hbo, free_alloc, if_neg (by simp only [World.size_alloc]; omega), free_alloc, if_pos (by simp only [World.size_alloc])]
  · rw [hbo, blk_alloc, if_pos (by simp only [World.size_alloc])]
  · rw [hbo, free_alloc, if_pos (by simp only [World.size_alloc])]
  · rw [hbo]; simp only [World.size_alloc]; omega
  · unfold TyAt
    rw [hbo, heap_alloc, if_neg (by simp only [World.size_alloc]; omega), heap_alloc, if_pos (by simp only [World.size_alloc])]
    exact ⟨_, _, rfl⟩
  · unfold TyAt
    rw [hbo, heap_alloc, if_pos (by simp only [World.size_alloc])]
    exact ⟨_, _, rfl⟩
  have hbpo : bp < bo := by omega
  have hwb : w.heap.size ≤ bo := by omega
  clear hbo
  have n1 : ¬ bp = bo + 1 + 1 := by omega
  have n2 : ¬ bo + 1 + 1 = bp := by omega
  have n3 : ¬ bo + 1 + 1 = bo := by omega
  have n4 : ¬ bo + 1 = bo + 1 + 1 := by omega
  have n5 : ¬ bo + 1 + 1 = bo + 1 := by omega
  have n6 : ¬ bo = bo + 1 + 1 := by omega
  rintro W ⟨hb1, hf1, hg1, ha1, haf1, hz1, hzf1, hsz1, HE1, HT1⟩
  have HP1 : Hid (PlayAt w0 bp p S X W) := HP.out.grow HE1.out
  have HBS1 : Hid (Beside bp w W ∧ w.heap.size ≤ W.heap.size) := ⟨.of_ext HE1.out, HE1.out.size⟩
  go_wp2_with fail
  refine (empty_ok W n hn10).mono ?_
  rintro e W2 ⟨rfl, he2⟩
  obtain ⟨sm, hsm⟩ : ∃ sm, sm = emptyR n := ⟨_, rfl⟩
  rw [← hsm]
  have HSM : Hid (sm = emptyR n) := hsm
  clear hsm
  have hext2 : W.Extends W2 := ext_Ext he2
  have hb2 := (he2.blk (b := bp) (by omega)).trans hb1
  have hf2 := (he2.free (b := bp) (by omega)).trans hf1
  have hz2 := (he2.blk (b := bo + 1 + 1) (by omega)).trans hz1
  have hzf2 := (he2.free (b := bo + 1 + 1) (by omega)).trans hzf1
  have ha2 := (he2.blk (b := bo + 1) (by omega)).trans ha1
  have haf2 := (he2.free (b := bo + 1) (by omega)).trans haf1
  have hsz2 := he2.size
  have HP2 : Hid (PlayAt w0 bp p S X W2) := HP1.out.grow hext2
  have HT2 : Hid (TyAt W2 (bo + 1) 50 ∧ TyAt W2 (bo + 1 + 1) 50) := ⟨HT1.out.1.of_heap (hext2.block _ (by omega)), HT1.out.2.of_heap (hext2.block _ (by omega))⟩
  have HBS2 : Hid (Beside bp w W2 ∧ w.heap.size ≤ W2.heap.size) := ⟨HBS1.out.1.grow HBS1.out.2 hext2, Nat.le_trans HBS1.out.2 hext2.size⟩
  clear he2 hext2
  go_wp2_with fail
  refine (answer_any _ bp p sm (by rw [blk_put, if_neg n1]; exact hb2) (by rw [free_put]; exact hf2)).mono ?_
  rintro e W5 ⟨rfl, ho⟩
  have HO5 : Hid (Out (put W2 (bo + 1 + 1) ({ Answer.zero with sum := sm, code := 0 } : Answer).enc) W5 bp ({ p with prev := p.last, last := sm } : Player).enc) := ho
  clear ho
  go_upto_region 38 with fail
  refine wp_world (fun W3 => blk W3 bp = some ({ p with prev := p.last, last := sm } : Player).enc ∧ blk W3 (bo + 1) = some Answer.zero.enc ∧ free W3 (bo + 1) = true ∧ blk W3 (bo + 1 + 1) = some ({ Answer.zero with sum := sm, code := 0 } : Answer).enc ∧ free W3 (bo + 1 + 1) = true ∧ Hid (PlayAt w0 bp ({ p with prev := p.last, last := sm }) ({ S with prev := S.last, last := sm } : PS) X W3) ∧ Hid (TyAt W3 (bo + 1) 50 ∧ TyAt W3 (bo + 1 + 1) 50) ∧ Hid (Beside bp w W3)) ?_ ?_
  · have hszp := HO5.out.size
    rw [size_put] at hszp
    refine ⟨?_, ?_, ?_, ?_, ?_, ?_, ?_, ?_⟩
    · exact HO5.out.blk_at (C := p.enc) (by rw [blk_put, if_neg n1]; exact hb2)
    · rw [HO5.out.blk_other (by rw [size_put]; omega) (by omega), blk_put, if_neg n4]; exact ha2
    · rw [HO5.out.free (by rw [size_put]; omega), free_put]; exact haf2
    · rw [HO5.out.blk_other (by rw [size_put]; omega) (by omega), blk_put, if_pos rfl, hz2]; rfl
    · rw [HO5.out.free (by rw [size_put]; omega), free_put]; exact hzf2
    · exact (HP2.out.put _ _ (by omega) (HT2.out.2.not_log (by decide))).step (S' := ({ S with prev := S.last, last := sm } : PS)) HO5.out HP2.out.rh HP2.out.ra rfl HP2.out.ls rfl rfl
    · exact ⟨(HT2.out.1.put _ _).out HO5.out, (HT2.out.2.put _ _).out HO5.out⟩
    · exact (HBS2.out.1.put_new _ _ (by omega)).out (by rw [size_put]; exact HBS2.out.2) HO5.out
  clear hb1 hf1 hg1 ha1 haf1 hz1 hzf1 hsz1 HE1 HP1 HT1 HBS1 hb2 hf2 hz2 hzf2 ha2 haf2 hsz2 HP2 HT2 HBS2 HO5
  obtain ⟨p2, hp2⟩ : ∃ p2, p2 = ({ p with prev := p.last, last := sm } : Player) := ⟨_, rfl⟩
  rw [← hp2]
  clear hp2
  obtain ⟨c2, hc2⟩ : ∃ c2, c2 = ({ Answer.zero with sum := sm, code := 0 } : Answer).code := ⟨_, rfl⟩
  have HCC : Hid (c2 = ({ Answer.zero with sum := sm, code := 0 } : Answer).code) := hc2
  clear hc2
  rintro W3 ⟨hb3, ha3, haf3, hz3, hzf3, HP3, HT3, HBS3⟩
  go_wp2_with fail
  refine (hlen_any W3 bp 0 p2.enc p2.hand (by rw [hand_eq]; exact hb3) (by rw [Player.length_enc]; omega)).mono ?_
  rintro e W4 ⟨rfl, rfl⟩
  go_wp2_with fail
  refine (loglen_any _ bp p2 (by rw [blk_put, if_neg n1]; exact hb3)).mono ?_
  rintro e W4 ⟨rfl, rfl⟩
  go_wp2_with fail
  refine (collided_any _ bp p2 (by rw [blk_put, if_neg n1]; exact hb3)).mono ?_
  rintro e W4 ⟨rfl, rfl⟩
  go_wp2_with fail
  refine ret_cell (C := ({ ({ Answer.zero with sum := sm, code := 0 } : Answer) with len := p2.hand.length, noted := (p2.log.entries.len : Nat), collided := p2.log.found } : Answer).enc) rfl rfl ?_ (by kernel_rfl) (by rw [Answer.length_enc]; kernel_rfl) rfl ?_
  · rw [blk_put, if_pos rfl]
    simp only [blk_put, n4, if_false, ha3]
    rfl
  · rw [← HSM.out]
    refine ⟨p2, rfl, (HP3.out.put _ _ (by omega) (HT3.out.2.not_log (by decide))).put _ _ (by omega) ((HT3.out.1.put _ _).not_log (by decide)), (HBS3.out.put_new _ _ (by omega)).put_new _ _ (by omega)⟩
set_option maxRecDepth 20000 in
set_option maxHeartbeats 2000000 in
theorem step_11b (w0 w : World) (bp : Nat) (p : Player) (g : GOp) (S : PS) (X : Nat → Prop) (hXw : ∀ k, X k → k < w.heap.size) (hP : PlayAt w0 bp p S X w) (hk : g.kind = 11) (hn : g.n < 0 ∨ 10 < g.n) :
    Calls Try.prog 15 #[.pointer (some ⟨bp, 0, none⟩), .agg g.enc.toArray] w fun e w' => ∃ p' : Player, e = .returned (.agg (stepAns 4 Z32 0 p').enc.toArray) ∧ PlayAt w0 bp p' S X w' ∧ Beside bp w w' := by
  have HP : Hid (PlayAt w0 bp p S X w) := hP
  have HXW : Hid (∀ k, X k → k < w.heap.size) := hXw
  clear hXw
  have hlt := hP.lt
  clear hP
  go_enter Try.func15, Try.ntmps15
  go_upto_region 4 with fail
  obtain ⟨bo, hbo⟩ : ∃ bo, bo = w.heap.size := ⟨_, rfl⟩
  rw [← hbo]
  refine wp_world (fun W => blk W bp = some p.enc ∧ free W bp = true ∧ blk W bo = some g.enc ∧ blk W (bo + 1) = some Answer.zero.enc ∧ free W (bo + 1) = true ∧ blk W (bo + 1 + 1) = some Answer.zero.enc ∧ free W (bo + 1 + 1) = true ∧ bo + 2 < W.heap.size ∧ Hid (w.Extends W) ∧ Hid (TyAt W (bo + 1) 50 ∧ TyAt W (bo + 1 + 1) 50)) ⟨?_, ?_, ?_, ?_, ?_, ?_, ?_, ?_, extends_alloc (extends_alloc (extends_alloc (ext_Ext (Ext.refl w)) _) _) _, ?_, ?_⟩ ?_
  · rw [blk_alloc, if_neg (by simp only [World.size_alloc]; omega), blk_alloc, if_neg (by simp only [World.size_alloc]; omega), blk_alloc, if_neg (by omega)]; exact HP.out.blk
  · rw [free_alloc, if_neg (by simp only [World.size_alloc]; omega), free_alloc, if_neg (by simp only [World.size_alloc]; omega), free_alloc, if_neg (by omega)]; exact HP.out.free
  · rw [hbo, blk_alloc, if_neg (by simp only [World.size_alloc]; omega), blk_alloc, if_neg (by simp only [World.size_alloc]; omega), blk_alloc, if_pos rfl]
  · rw [hbo, blk_alloc, if_neg (by simp only [World.size_alloc]; omega), blk_alloc, if_pos (by simp only [World.size_alloc])]
  · rw [hbo, free_alloc, if_neg (by simp only [World.size_alloc]; omega), free_alloc, if_pos (by simp only [World.size_alloc])]
  · rw [hbo, blk_alloc, if_pos (by simp only [World.size_alloc])]
  · rw [hbo, free_alloc, if_pos (by simp only [World.size_alloc])]
  · rw [hbo]; simp only [World.size_alloc]; omega
  · unfold TyAt
    rw [hbo, heap_alloc, if_neg (by simp only [World.size_alloc]; omega), heap_alloc, if_pos (by simp only [World.size_alloc])]
    exact ⟨_, _, rfl⟩
  · unfold TyAt
    rw [hbo, heap_alloc, if_pos (by simp only [World.size_alloc])]
    exact ⟨_, _, rfl⟩
  have hbpo : bp < bo := by omega
  have hwb : w.heap.size ≤ bo := by omega
  clear hbo
  have n1 : ¬ bp = bo + 1 + 1 := by omega
  have n2 : ¬ bo + 1 + 1 = bp := by omega
  have n3 : ¬ bo + 1 + 1 = bo := by omega
  have n4 : ¬ bo + 1 = bo + 1 + 1 := by omega
  have n5 : ¬ bo + 1 + 1 = bo + 1 := by omega
  have n6 : ¬ bo = bo + 1 + 1 := by omega
  rintro W ⟨hb1, hf1, hg1, ha1, haf1, hz1, hzf1, hsz1, HE1, HT1⟩
  have HP1 : Hid (PlayAt w0 bp p S X W) := HP.out.grow HE1.out
  have HBS1 : Hid (Beside bp w W ∧ w.heap.size ≤ W.heap.size) := ⟨.of_ext HE1.out, HE1.out.size⟩
  go_wp2_with fail
  refine (empty_bad W g.n hn).mono ?_
  rintro e W2 ⟨rfl, he2⟩
  have hext2 : W.Extends W2 := ext_Ext he2
  have hb2 := (he2.blk (b := bp) (by omega)).trans hb1
  have hf2 := (he2.free (b := bp) (by omega)).trans hf1
  have hz2 := (he2.blk (b := bo + 1 + 1) (by omega)).trans hz1
  have hzf2 := (he2.free (b := bo + 1 + 1) (by omega)).trans hzf1
  have ha2 := (he2.blk (b := bo + 1) (by omega)).trans ha1
  have haf2 := (he2.free (b := bo + 1) (by omega)).trans haf1
  have hsz2 := he2.size
  have HP2 : Hid (PlayAt w0 bp p S X W2) := HP1.out.grow hext2
  have HT2 : Hid (TyAt W2 (bo + 1) 50 ∧ TyAt W2 (bo + 1 + 1) 50) := ⟨HT1.out.1.of_heap (hext2.block _ (by omega)), HT1.out.2.of_heap (hext2.block _ (by omega))⟩
  have HBS2 : Hid (Beside bp w W2 ∧ w.heap.size ≤ W2.heap.size) := ⟨HBS1.out.1.grow HBS1.out.2 hext2, Nat.le_trans HBS1.out.2 hext2.size⟩
  clear he2 hext2
  go_upto_region 38 with fail
  refine wp_world (fun W3 => blk W3 bp = some (p : Player).enc ∧ blk W3 (bo + 1) = some Answer.zero.enc ∧ free W3 (bo + 1) = true ∧ blk W3 (bo + 1 + 1) = some ({ Answer.zero with sum := Z32, code := 4 } : Answer).enc ∧ free W3 (bo + 1 + 1) = true ∧ Hid (PlayAt w0 bp (p) S X W3) ∧ Hid (TyAt W3 (bo + 1) 50 ∧ TyAt W3 (bo + 1 + 1) 50) ∧ Hid (Beside bp w W3)) ?_ ?_
  · refine ⟨?_, ?_, ?_, ?_, ?_, ?_, ?_, ?_⟩
    · rw [blk_put, if_neg n1]; exact hb2
    · rw [blk_put, if_neg n4]; exact ha2
    · rw [free_put]; exact haf2
    · rw [blk_put, if_pos rfl, hz2]; rfl
    · rw [free_put]; exact hzf2
    · exact HP2.out.put _ _ (by omega) (HT2.out.2.not_log (by decide))
    · exact ⟨HT2.out.1.put _ _, HT2.out.2.put _ _⟩
    · exact HBS2.out.1.put_new _ _ (by omega)
  clear hb1 hf1 hg1 ha1 haf1 hz1 hzf1 hsz1 HE1 HP1 HT1 HBS1 hb2 hf2 hz2 hzf2 ha2 haf2 hsz2 HP2 HT2 HBS2
  obtain ⟨p2, hp2⟩ : ∃ p2, p2 = (p : Player) := ⟨_, rfl⟩
  rw [← hp2]
  clear hp2
  obtain ⟨c2, hc2⟩ : ∃ c2, c2 = ({ Answer.zero with sum := Z32, code := 4 } : Answer).code := ⟨_, rfl⟩
  have HCC : Hid (c2 = ({ Answer.zero with sum := Z32, code := 4 } : Answer).code) := hc2
  clear hc2
  rintro W3 ⟨hb3, ha3, haf3, hz3, hzf3, HP3, HT3, HBS3⟩
  go_wp2_with fail
  refine (hlen_any W3 bp 0 p2.enc p2.hand (by rw [hand_eq]; exact hb3) (by rw [Player.length_enc]; omega)).mono ?_
  rintro e W4 ⟨rfl, rfl⟩
  go_wp2_with fail
  refine (loglen_any _ bp p2 (by rw [blk_put, if_neg n1]; exact hb3)).mono ?_
  rintro e W4 ⟨rfl, rfl⟩
  go_wp2_with fail
  refine (collided_any _ bp p2 (by rw [blk_put, if_neg n1]; exact hb3)).mono ?_
  rintro e W4 ⟨rfl, rfl⟩
  go_wp2_with fail
  refine ret_cell (C := ({ ({ Answer.zero with sum := Z32, code := 4 } : Answer) with len := p2.hand.length, noted := (p2.log.entries.len : Nat), collided := p2.log.found } : Answer).enc) rfl rfl ?_ (by kernel_rfl) (by rw [Answer.length_enc]; kernel_rfl) rfl ?_
  · rw [blk_put, if_pos rfl]
    simp only [blk_put, n4, if_false, ha3]
    rfl
  · refine ⟨p2, rfl, (HP3.out.put _ _ (by omega) (HT3.out.2.not_log (by decide))).put _ _ (by omega) ((HT3.out.1.put _ _).not_log (by decide)), (HBS3.out.put_new _ _ (by omega)).put_new _ _ (by omega)⟩
set_option maxRecDepth 20000 in
set_option maxHeartbeats 2000000 in
theorem step_13 (w0 w : World) (bp : Nat) (p : Player) (g : GOp) (S : PS) (X : Nat → Prop) (hXw : ∀ k, X k → k < w.heap.size) (xs : List UInt8) (d : Vector UInt8 32) (hP : PlayAt w0 bp p S X w) (hk : g.kind = 13) (hX : BytesAt w0.heap.size w0 g.data.a g.data.len g.data.cap xs) (hd : parseH xs = some d) :
    Calls Try.prog 15 #[.pointer (some ⟨bp, 0, none⟩), .agg g.enc.toArray] w fun e w' => ∃ p' : Player, e = .returned (.agg (stepAns 0 d 0 p').enc.toArray) ∧ PlayAt w0 bp p' ({ S with prev := S.last, last := d } : PS) X w' ∧ Beside bp w w' := by
  have HP : Hid (PlayAt w0 bp p S X w) := hP
  have HXW : Hid (∀ k, X k → k < w.heap.size) := hXw
  clear hXw
  have hlt := hP.lt
  clear hP
  have HX : Hid (BytesAt w0.heap.size w0 g.data.a g.data.len g.data.cap xs) := hX
  clear hX
  have hsv : Sl.val g.data = .slice g.data.a g.data.len g.data.cap := rfl
  go_enter Try.func15, Try.ntmps15
  go_upto_region 4 with fail
  obtain ⟨bo, hbo⟩ : ∃ bo, bo = w.heap.size := ⟨_, rfl⟩
  rw [← hbo]
  refine wp_world (fun W => blk W bp = some p.enc ∧ free W bp = true ∧ blk W bo = some g.enc ∧ blk W (bo + 1) = some Answer.zero.enc ∧ free W (bo + 1) = true ∧ blk W (bo + 1 + 1) = some Answer.zero.enc ∧ free W (bo + 1 + 1) = true ∧ bo + 2 < W.heap.size ∧ Hid (w.Extends W) ∧ Hid (TyAt W (bo + 1) 50 ∧ TyAt W (bo + 1 + 1) 50)) ⟨?_, ?_, ?_, ?_, ?_, ?_, ?_, ?_, extends_alloc (extends_alloc (extends_alloc (ext_Ext (Ext.refl w)) _) _) _, ?_, ?_⟩ ?_
  · rw [blk_alloc, if_neg (by simp only [World.size_alloc]; omega), blk_alloc, if_neg (by simp only [World.size_alloc]; omega), blk_alloc, if_neg (by omega)]; exact HP.out.blk
  · rw [free_alloc, if_neg (by simp only [World.size_alloc]; omega), free_alloc, if_neg (by simp only [World.size_alloc]; omega), free_alloc, if_neg (by omega)]; exact HP.out.free
  · rw [hbo, blk_alloc, if_neg (by simp only [World.size_alloc]; omega), blk_alloc, if_neg (by simp only [World.size_alloc]; omega), blk_alloc, if_pos rfl]
  · rw [hbo, blk_alloc, if_neg (by simp only [World.size_alloc]; omega), blk_alloc, if_pos (by simp only [World.size_alloc])]
  · rw [hbo, free_alloc, if_neg (by simp only [World.size_alloc]; omega), free_alloc, if_pos (by simp only [World.size_alloc])]
  · rw [hbo, blk_alloc, if_pos (by simp only [World.size_alloc])]
  · rw [hbo, free_alloc, if_pos (by simp only [World.size_alloc])]
  · rw [hbo]; simp only [World.size_alloc]; omega
  · unfold TyAt
    rw [hbo, heap_alloc, if_neg (by simp only [World.size_alloc]; omega), heap_alloc, if_pos (by simp only [World.size_alloc])]
    exact ⟨_, _, rfl⟩
  · unfold TyAt
    rw [hbo, heap_alloc, if_pos (by simp only [World.size_alloc])]
    exact ⟨_, _, rfl⟩
  have hbpo : bp < bo := by omega
  have hwb : w.heap.size ≤ bo := by omega
  clear hbo
  have n1 : ¬ bp = bo + 1 + 1 := by omega
  have n2 : ¬ bo + 1 + 1 = bp := by omega
  have n3 : ¬ bo + 1 + 1 = bo := by omega
  have n4 : ¬ bo + 1 = bo + 1 + 1 := by omega
  have n5 : ¬ bo + 1 + 1 = bo + 1 := by omega
  have n6 : ¬ bo = bo + 1 + 1 := by omega
  rintro W ⟨hb1, hf1, hg1, ha1, haf1, hz1, hzf1, hsz1, HE1, HT1⟩
  have HP1 : Hid (PlayAt w0 bp p S X W) := HP.out.grow HE1.out
  have HBS1 : Hid (Beside bp w W ∧ w.heap.size ≤ W.heap.size) := ⟨.of_ext HE1.out, HE1.out.size⟩
  go_wp2_with fail
  refine (parseHex_any W W.heap.size g.data.a g.data.len g.data.cap xs (HX.out.at_new (fun k hk => HP1.out.ext.blk hk) HP1.out.ext.size)).mono ?_
  rintro e W2 ⟨rfl, he2⟩
  have hpv : parseV xs = .tuple #[.agg (arr u8v d).toArray, .int .i64 0] := by unfold parseV; rw [hd]; rfl
  rw [hpv]
  clear hpv
  have hext2 : W.Extends W2 := ext_Ext he2
  have hb2 := (he2.blk (b := bp) (by omega)).trans hb1
  have hf2 := (he2.free (b := bp) (by omega)).trans hf1
  have hz2 := (he2.blk (b := bo + 1 + 1) (by omega)).trans hz1
  have hzf2 := (he2.free (b := bo + 1 + 1) (by omega)).trans hzf1
  have ha2 := (he2.blk (b := bo + 1) (by omega)).trans ha1
  have haf2 := (he2.free (b := bo + 1) (by omega)).trans haf1
  have hsz2 := he2.size
  have HP2 : Hid (PlayAt w0 bp p S X W2) := HP1.out.grow hext2
  have HT2 : Hid (TyAt W2 (bo + 1) 50 ∧ TyAt W2 (bo + 1 + 1) 50) := ⟨HT1.out.1.of_heap (hext2.block _ (by omega)), HT1.out.2.of_heap (hext2.block _ (by omega))⟩
  have HBS2 : Hid (Beside bp w W2 ∧ w.heap.size ≤ W2.heap.size) := ⟨HBS1.out.1.grow HBS1.out.2 hext2, Nat.le_trans HBS1.out.2 hext2.size⟩
  clear he2 hext2
  go_wp2_with fail
  refine (answer_any _ bp p d (by rw [blk_put, if_neg n1]; exact hb2) (by rw [free_put]; exact hf2)).mono ?_
  rintro e W5 ⟨rfl, ho⟩
  have HO5 : Hid (Out (put W2 (bo + 1 + 1) ({ Answer.zero with sum := d, code := 0 } : Answer).enc) W5 bp ({ p with prev := p.last, last := d } : Player).enc) := ho
  clear ho
  go_upto_region 38 with fail
  refine wp_world (fun W3 => blk W3 bp = some ({ p with prev := p.last, last := d } : Player).enc ∧ blk W3 (bo + 1) = some Answer.zero.enc ∧ free W3 (bo + 1) = true ∧ blk W3 (bo + 1 + 1) = some ({ Answer.zero with sum := d, code := 0 } : Answer).enc ∧ free W3 (bo + 1 + 1) = true ∧ Hid (PlayAt w0 bp ({ p with prev := p.last, last := d }) ({ S with prev := S.last, last := d } : PS) X W3) ∧ Hid (TyAt W3 (bo + 1) 50 ∧ TyAt W3 (bo + 1 + 1) 50) ∧ Hid (Beside bp w W3)) ?_ ?_
  · have hszp := HO5.out.size
    rw [size_put] at hszp
    refine ⟨?_, ?_, ?_, ?_, ?_, ?_, ?_, ?_⟩
    · exact HO5.out.blk_at (C := p.enc) (by rw [blk_put, if_neg n1]; exact hb2)
    · rw [HO5.out.blk_other (by rw [size_put]; omega) (by omega), blk_put, if_neg n4]; exact ha2
    · rw [HO5.out.free (by rw [size_put]; omega), free_put]; exact haf2
    · rw [HO5.out.blk_other (by rw [size_put]; omega) (by omega), blk_put, if_pos rfl, hz2]; rfl
    · rw [HO5.out.free (by rw [size_put]; omega), free_put]; exact hzf2
    · exact (HP2.out.put _ _ (by omega) (HT2.out.2.not_log (by decide))).step (S' := ({ S with prev := S.last, last := d } : PS)) HO5.out HP2.out.rh HP2.out.ra rfl HP2.out.ls rfl rfl
    · exact ⟨(HT2.out.1.put _ _).out HO5.out, (HT2.out.2.put _ _).out HO5.out⟩
    · exact (HBS2.out.1.put_new _ _ (by omega)).out (by rw [size_put]; exact HBS2.out.2) HO5.out
  clear hb1 hf1 hg1 ha1 haf1 hz1 hzf1 hsz1 HE1 HP1 HT1 HBS1 hb2 hf2 hz2 hzf2 ha2 haf2 hsz2 HP2 HT2 HBS2 HO5
  obtain ⟨p2, hp2⟩ : ∃ p2, p2 = ({ p with prev := p.last, last := d } : Player) := ⟨_, rfl⟩
  rw [← hp2]
  clear hp2
  obtain ⟨c2, hc2⟩ : ∃ c2, c2 = ({ Answer.zero with sum := d, code := 0 } : Answer).code := ⟨_, rfl⟩
  have HCC : Hid (c2 = ({ Answer.zero with sum := d, code := 0 } : Answer).code) := hc2
  clear hc2
  rintro W3 ⟨hb3, ha3, haf3, hz3, hzf3, HP3, HT3, HBS3⟩
  go_wp2_with fail
  refine (hlen_any W3 bp 0 p2.enc p2.hand (by rw [hand_eq]; exact hb3) (by rw [Player.length_enc]; omega)).mono ?_
  rintro e W4 ⟨rfl, rfl⟩
  go_wp2_with fail
  refine (loglen_any _ bp p2 (by rw [blk_put, if_neg n1]; exact hb3)).mono ?_
  rintro e W4 ⟨rfl, rfl⟩
  go_wp2_with fail
  refine (collided_any _ bp p2 (by rw [blk_put, if_neg n1]; exact hb3)).mono ?_
  rintro e W4 ⟨rfl, rfl⟩
  go_wp2_with fail
  refine ret_cell (C := ({ ({ Answer.zero with sum := d, code := 0 } : Answer) with len := p2.hand.length, noted := (p2.log.entries.len : Nat), collided := p2.log.found } : Answer).enc) rfl rfl ?_ (by kernel_rfl) (by rw [Answer.length_enc]; kernel_rfl) rfl ?_
  · rw [blk_put, if_pos rfl]
    simp only [blk_put, n4, if_false, ha3]
    rfl
  · refine ⟨p2, rfl, (HP3.out.put _ _ (by omega) (HT3.out.2.not_log (by decide))).put _ _ (by omega) ((HT3.out.1.put _ _).not_log (by decide)), (HBS3.out.put_new _ _ (by omega)).put_new _ _ (by omega)⟩
set_option maxRecDepth 20000 in
set_option maxHeartbeats 2000000 in
theorem step_13b (w0 w : World) (bp : Nat) (p : Player) (g : GOp) (S : PS) (X : Nat → Prop) (hXw : ∀ k, X k → k < w.heap.size) (xs : List UInt8) (hP : PlayAt w0 bp p S X w) (hk : g.kind = 13) (hX : BytesAt w0.heap.size w0 g.data.a g.data.len g.data.cap xs) (hd : parseH xs = none) :
    Calls Try.prog 15 #[.pointer (some ⟨bp, 0, none⟩), .agg g.enc.toArray] w fun e w' => ∃ p' : Player, e = .returned (.agg (stepAns 3 Z32 0 p').enc.toArray) ∧ PlayAt w0 bp p' S X w' ∧ Beside bp w w' := by
  have HP : Hid (PlayAt w0 bp p S X w) := hP
  have HXW : Hid (∀ k, X k → k < w.heap.size) := hXw
  clear hXw
  have hlt := hP.lt
  clear hP
  have HX : Hid (BytesAt w0.heap.size w0 g.data.a g.data.len g.data.cap xs) := hX
  clear hX
  have hsv : Sl.val g.data = .slice g.data.a g.data.len g.data.cap := rfl
  go_enter Try.func15, Try.ntmps15
  go_upto_region 4 with fail
  obtain ⟨bo, hbo⟩ : ∃ bo, bo = w.heap.size := ⟨_, rfl⟩
  rw [← hbo]
  refine wp_world (fun W => blk W bp = some p.enc ∧ free W bp = true ∧ blk W bo = some g.enc ∧ blk W (bo + 1) = some Answer.zero.enc ∧ free W (bo + 1) = true ∧ blk W (bo + 1 + 1) = some Answer.zero.enc ∧ free W (bo + 1 + 1) = true ∧ bo + 2 < W.heap.size ∧ Hid (w.Extends W) ∧ Hid (TyAt W (bo + 1) 50 ∧ TyAt W (bo + 1 + 1) 50)) ⟨?_, ?_, ?_, ?_, ?_, ?_, ?_, ?_, extends_alloc (extends_alloc (extends_alloc (ext_Ext (Ext.refl w)) _) _) _, ?_, ?_⟩ ?_
  · rw [blk_alloc, if_neg (by simp only [World.size_alloc]; omega), blk_alloc, if_neg (by simp only [World.size_alloc]; omega), blk_alloc, if_neg (by omega)]; exact HP.out.blk
  · rw [free_alloc, if_neg (by simp only [World.size_alloc]; omega), free_alloc, if_neg (by simp only [World.size_alloc]; omega), free_alloc, if_neg (by omega)]; exact HP.out.free
  · rw [hbo, blk_alloc, if_neg (by simp only [World.size_alloc]; omega), blk_alloc, if_neg (by simp only [World.size_alloc]; omega), blk_alloc, if_pos rfl]
  · rw [hbo, blk_alloc, if_neg (by simp only [World.size_alloc]; omega), blk_alloc, if_pos (by simp only [World.size_alloc])]
  · rw [hbo, free_alloc, if_neg (by simp only [World.size_alloc]; omega), free_alloc, if_pos (by simp only [World.size_alloc])]
  · rw [hbo, blk_alloc, if_pos (by simp only [World.size_alloc])]
  · rw [hbo, free_alloc, if_pos (by simp only [World.size_alloc])]
  · rw [hbo]; simp only [World.size_alloc]; omega
  · unfold TyAt
    rw [hbo, heap_alloc, if_neg (by simp only [World.size_alloc]; omega), heap_alloc, if_pos (by simp only [World.size_alloc])]
    exact ⟨_, _, rfl⟩
  · unfold TyAt
    rw [hbo, heap_alloc, if_pos (by simp only [World.size_alloc])]
    exact ⟨_, _, rfl⟩
  have hbpo : bp < bo := by omega
  have hwb : w.heap.size ≤ bo := by omega
  clear hbo
  have n1 : ¬ bp = bo + 1 + 1 := by omega
  have n2 : ¬ bo + 1 + 1 = bp := by omega
  have n3 : ¬ bo + 1 + 1 = bo := by omega
  have n4 : ¬ bo + 1 = bo + 1 + 1 := by omega
  have n5 : ¬ bo + 1 + 1 = bo + 1 := by omega
  have n6 : ¬ bo = bo + 1 + 1 := by omega
  rintro W ⟨hb1, hf1, hg1, ha1, haf1, hz1, hzf1, hsz1, HE1, HT1⟩
  have HP1 : Hid (PlayAt w0 bp p S X W) := HP.out.grow HE1.out
  have HBS1 : Hid (Beside bp w W ∧ w.heap.size ≤ W.heap.size) := ⟨.of_ext HE1.out, HE1.out.size⟩
  go_wp2_with fail
  refine (parseHex_any W W.heap.size g.data.a g.data.len g.data.cap xs (HX.out.at_new (fun k hk => HP1.out.ext.blk hk) HP1.out.ext.size)).mono ?_
  rintro e W2 ⟨rfl, he2⟩
  have hpv : parseV xs = .tuple #[.agg (arr u8v Z32).toArray, .int .i64 3] := by unfold parseV; rw [hd]; rfl
  rw [hpv]
  clear hpv
  have hext2 : W.Extends W2 := ext_Ext he2
  have hb2 := (he2.blk (b := bp) (by omega)).trans hb1
  have hf2 := (he2.free (b := bp) (by omega)).trans hf1
  have hz2 := (he2.blk (b := bo + 1 + 1) (by omega)).trans hz1
  have hzf2 := (he2.free (b := bo + 1 + 1) (by omega)).trans hzf1
  have ha2 := (he2.blk (b := bo + 1) (by omega)).trans ha1
  have haf2 := (he2.free (b := bo + 1) (by omega)).trans haf1
  have hsz2 := he2.size
  have HP2 : Hid (PlayAt w0 bp p S X W2) := HP1.out.grow hext2
  have HT2 : Hid (TyAt W2 (bo + 1) 50 ∧ TyAt W2 (bo + 1 + 1) 50) := ⟨HT1.out.1.of_heap (hext2.block _ (by omega)), HT1.out.2.of_heap (hext2.block _ (by omega))⟩
  have HBS2 : Hid (Beside bp w W2 ∧ w.heap.size ≤ W2.heap.size) := ⟨HBS1.out.1.grow HBS1.out.2 hext2, Nat.le_trans HBS1.out.2 hext2.size⟩
  clear he2 hext2
  go_upto_region 38 with fail
  refine wp_world (fun W3 => blk W3 bp = some (p : Player).enc ∧ blk W3 (bo + 1) = some Answer.zero.enc ∧ free W3 (bo + 1) = true ∧ blk W3 (bo + 1 + 1) = some ({ Answer.zero with sum := Z32, code := 3 } : Answer).enc ∧ free W3 (bo + 1 + 1) = true ∧ Hid (PlayAt w0 bp (p) S X W3) ∧ Hid (TyAt W3 (bo + 1) 50 ∧ TyAt W3 (bo + 1 + 1) 50) ∧ Hid (Beside bp w W3)) ?_ ?_
  · refine ⟨?_, ?_, ?_, ?_, ?_, ?_, ?_, ?_⟩
    · rw [blk_put, if_neg n1]; exact hb2
    · rw [blk_put, if_neg n4]; exact ha2
    · rw [free_put]; exact haf2
    · rw [blk_put, if_pos rfl, hz2]; rfl
    · rw [free_put]; exact hzf2
    · exact HP2.out.put _ _ (by omega) (HT2.out.2.not_log (by decide))
    · exact ⟨HT2.out.1.put _ _, HT2.out.2.put _ _⟩
    · exact HBS2.out.1.put_new _ _ (by omega)
  clear hb1 hf1 hg1 ha1 haf1 hz1 hzf1 hsz1 HE1 HP1 HT1 HBS1 hb2 hf2 hz2 hzf2 ha2 haf2 hsz2 HP2 HT2 HBS2
  obtain ⟨p2, hp2⟩ : ∃ p2, p2 = (p : Player) := ⟨_, rfl⟩
  rw [← hp2]
  clear hp2
  obtain ⟨c2, hc2⟩ : ∃ c2, c2 = ({ Answer.zero with sum := Z32, code := 3 } : Answer).code := ⟨_, rfl⟩
  have HCC : Hid (c2 = ({ Answer.zero with sum := Z32, code := 3 } : Answer).code) := hc2
  clear hc2
  rintro W3 ⟨hb3, ha3, haf3, hz3, hzf3, HP3, HT3, HBS3⟩
  go_wp2_with fail
  refine (hlen_any W3 bp 0 p2.enc p2.hand (by rw [hand_eq]; exact hb3) (by rw [Player.length_enc]; omega)).mono ?_
  rintro e W4 ⟨rfl, rfl⟩
  go_wp2_with fail
  refine (loglen_any _ bp p2 (by rw [blk_put, if_neg n1]; exact hb3)).mono ?_
  rintro e W4 ⟨rfl, rfl⟩
  go_wp2_with fail
  refine (collided_any _ bp p2 (by rw [blk_put, if_neg n1]; exact hb3)).mono ?_
  rintro e W4 ⟨rfl, rfl⟩
  go_wp2_with fail
  refine ret_cell (C := ({ ({ Answer.zero with sum := Z32, code := 3 } : Answer) with len := p2.hand.length, noted := (p2.log.entries.len : Nat), collided := p2.log.found } : Answer).enc) rfl rfl ?_ (by kernel_rfl) (by rw [Answer.length_enc]; kernel_rfl) rfl ?_
  · rw [blk_put, if_pos rfl]
    simp only [blk_put, n4, if_false, ha3]
    rfl
  · refine ⟨p2, rfl, (HP3.out.put _ _ (by omega) (HT3.out.2.not_log (by decide))).put _ _ (by omega) ((HT3.out.1.put _ _).not_log (by decide)), (HBS3.out.put_new _ _ (by omega)).put_new _ _ (by omega)⟩
set_option maxRecDepth 20000 in
set_option maxHeartbeats 2000000 in
theorem step_0 (w0 w : World) (bp : Nat) (p : Player) (g : GOp) (S : PS) (X : Nat → Prop) (hXw : ∀ k, X k → k < w.heap.size) (hP : PlayAt w0 bp p S X w) (h1 : ¬ g.kind = 1) (h2 : ¬ g.kind = 2) (h3 : ¬ g.kind = 3) (h4 : ¬ g.kind = 4) (h5 : ¬ g.kind = 5) (h6 : ¬ g.kind = 6) (h7 : ¬ g.kind = 7) (h8 : ¬ g.kind = 8) (h9 : ¬ g.kind = 9) (h10 : ¬ g.kind = 10) (h11 : ¬ g.kind = 11) (h12 : ¬ g.kind = 12) (h13 : ¬ g.kind = 13) :
    Calls Try.prog 15 #[.pointer (some ⟨bp, 0, none⟩), .agg g.enc.toArray] w fun e w' => ∃ p' : Player, e = .returned (.agg (stepAns 5 Z32 0 p').enc.toArray) ∧ PlayAt w0 bp p' S X w' ∧ Beside bp w w' := by
  have HP : Hid (PlayAt w0 bp p S X w) := hP
  have HXW : Hid (∀ k, X k → k < w.heap.size) := hXw
  clear hXw
  have hlt := hP.lt
  clear hP
  go_enter Try.func15, Try.ntmps15
  go_upto_region 4 with fail
  obtain ⟨bo, hbo⟩ : ∃ bo, bo = w.heap.size := ⟨_, rfl⟩
  rw [← hbo]
  refine wp_world (fun W => blk W bp = some p.enc ∧ free W bp = true ∧ blk W bo = some g.enc ∧ blk W (bo + 1) = some Answer.zero.enc ∧ free W (bo + 1) = true ∧ blk W (bo + 1 + 1) = some Answer.zero.enc ∧ free W (bo + 1 + 1) = true ∧ bo + 2 < W.heap.size ∧ Hid (w.Extends W) ∧ Hid (TyAt W (bo + 1) 50 ∧ TyAt W (bo + 1 + 1) 50)) ⟨?_, ?_, ?_, ?_, ?_, ?_, ?_, ?_, extends_alloc (extends_alloc (extends_alloc (ext_Ext (Ext.refl w)) _) _) _, ?_, ?_⟩ ?_
  · rw [blk_alloc, if_neg (by simp only [World.size_alloc]; omega), blk_alloc, if_neg (by simp only [World.size_alloc]; omega), blk_alloc, if_neg (by omega)]; exact HP.out.blk
  · rw [free_alloc, if_neg (by simp only [World.size_alloc]; omega), free_alloc, if_neg (by simp only [World.size_alloc]; omega), free_alloc, if_neg (by omega)]; exact HP.out.free
  · rw [hbo, blk_alloc, if_neg (by simp only [World.size_alloc]; omega), blk_alloc, if_neg (by simp only [World.size_alloc]; omega), blk_alloc, if_pos rfl]
  · rw [hbo, blk_alloc, if_neg (by simp only [World.size_alloc]; omega), blk_alloc, if_pos (by simp only [World.size_alloc])]
  · rw [hbo, free_alloc, if_neg (by simp only [World.size_alloc]; omega), free_alloc, if_pos (by simp only [World.size_alloc])]
  · rw [hbo, blk_alloc, if_pos (by simp only [World.size_alloc])]
  · rw [hbo, free_alloc, if_pos (by simp only [World.size_alloc])]
  · rw [hbo]; simp only [World.size_alloc]; omega
  · unfold TyAt
    rw [hbo, heap_alloc, if_neg (by simp only [World.size_alloc]; omega), heap_alloc, if_pos (by simp only [World.size_alloc])]
    exact ⟨_, _, rfl⟩
  · unfold TyAt
    rw [hbo, heap_alloc, if_pos (by simp only [World.size_alloc])]
    exact ⟨_, _, rfl⟩
  have hbpo : bp < bo := by omega
  have hwb : w.heap.size ≤ bo := by omega
  clear hbo
  have n1 : ¬ bp = bo + 1 + 1 := by omega
  have n2 : ¬ bo + 1 + 1 = bp := by omega
  have n3 : ¬ bo + 1 + 1 = bo := by omega
  have n4 : ¬ bo + 1 = bo + 1 + 1 := by omega
  have n5 : ¬ bo + 1 + 1 = bo + 1 := by omega
  have n6 : ¬ bo = bo + 1 + 1 := by omega
  rintro W ⟨hb1, hf1, hg1, ha1, haf1, hz1, hzf1, hsz1, HE1, HT1⟩
  have HP1 : Hid (PlayAt w0 bp p S X W) := HP.out.grow HE1.out
  have HBS1 : Hid (Beside bp w W ∧ w.heap.size ≤ W.heap.size) := ⟨.of_ext HE1.out, HE1.out.size⟩
  go_upto_region 38 with fail
  refine wp_world (fun W3 => blk W3 bp = some (p : Player).enc ∧ blk W3 (bo + 1) = some Answer.zero.enc ∧ free W3 (bo + 1) = true ∧ blk W3 (bo + 1 + 1) = some ({ Answer.zero with code := 5 } : Answer).enc ∧ free W3 (bo + 1 + 1) = true ∧ Hid (PlayAt w0 bp (p) S X W3) ∧ Hid (TyAt W3 (bo + 1) 50 ∧ TyAt W3 (bo + 1 + 1) 50) ∧ Hid (Beside bp w W3)) ?_ ?_
  · refine ⟨?_, ?_, ?_, ?_, ?_, ?_, ?_, ?_⟩
    · rw [blk_put, if_neg n1]; exact hb1
    · rw [blk_put, if_neg n4]; exact ha1
    · rw [free_put]; exact haf1
    · rw [blk_put, if_pos rfl, hz1]; rfl
    · rw [free_put]; exact hzf1
    · exact HP1.out.put _ _ (by omega) (HT1.out.2.not_log (by decide))
    · exact ⟨HT1.out.1.put _ _, HT1.out.2.put _ _⟩
    · exact HBS1.out.1.put_new _ _ (by omega)
  clear hb1 hf1 hg1 ha1 haf1 hz1 hzf1 hsz1 HE1 HP1 HT1 HBS1
  obtain ⟨p2, hp2⟩ : ∃ p2, p2 = (p : Player) := ⟨_, rfl⟩
  rw [← hp2]
  clear hp2
  obtain ⟨c2, hc2⟩ : ∃ c2, c2 = ({ Answer.zero with code := 5 } : Answer).code := ⟨_, rfl⟩
  have HCC : Hid (c2 = ({ Answer.zero with code := 5 } : Answer).code) := hc2
  clear hc2
  rintro W3 ⟨hb3, ha3, haf3, hz3, hzf3, HP3, HT3, HBS3⟩
  go_wp2_with fail
  refine (hlen_any W3 bp 0 p2.enc p2.hand (by rw [hand_eq]; exact hb3) (by rw [Player.length_enc]; omega)).mono ?_
  rintro e W4 ⟨rfl, rfl⟩
  go_wp2_with fail
  refine (loglen_any _ bp p2 (by rw [blk_put, if_neg n1]; exact hb3)).mono ?_
  rintro e W4 ⟨rfl, rfl⟩
  go_wp2_with fail
  refine (collided_any _ bp p2 (by rw [blk_put, if_neg n1]; exact hb3)).mono ?_
  rintro e W4 ⟨rfl, rfl⟩
  go_wp2_with fail
  refine ret_cell (C := ({ ({ Answer.zero with code := 5 } : Answer) with len := p2.hand.length, noted := (p2.log.entries.len : Nat), collided := p2.log.found } : Answer).enc) rfl rfl ?_ (by kernel_rfl) (by rw [Answer.length_enc]; kernel_rfl) rfl ?_
  · rw [blk_put, if_pos rfl]
    simp only [blk_put, n4, if_false, ha3]
    rfl
  · refine ⟨p2, rfl, (HP3.out.put _ _ (by omega) (HT3.out.2.not_log (by decide))).put _ _ (by omega) ((HT3.out.1.put _ _).not_log (by decide)), (HBS3.out.put_new _ _ (by omega)).put_new _ _ (by omega)⟩
set_option maxRecDepth 20000 in
set_option maxHeartbeats 2000000 in
theorem step_12 (w0 w : World) (bp : Nat) (p : Player) (g : GOp) (S : PS) (X : Nat → Prop) (hXw : ∀ k, X k → k < w.heap.size) (xs : List UInt8) (hP : PlayAt w0 bp p S X w) (hk : g.kind = 12) (hX : BytesAt w0.heap.size w0 g.data.a g.data.len g.data.cap xs) (hdl : g.data.len ≤ 65536) (hns : S.A.es.length ≤ 70000) :
    Calls Try.prog 15 #[.pointer (some ⟨bp, 0, none⟩), .agg g.enc.toArray] w fun e w' => ∃ p' : Player, e = .returned (.agg (stepAns 0 Z32 (noteA S.A (xs, g.sum)).2 p').enc.toArray) ∧ PlayAt w0 bp p' ({ S with A := (noteA S.A (xs, g.sum)).1 } : PS) X w' ∧ Beside bp w w' := by
  have HP : Hid (PlayAt w0 bp p S X w) := hP
  have HXW : Hid (∀ k, X k → k < w.heap.size) := hXw
  clear hXw
  have hlt := hP.lt
  clear hP
  have HX : Hid (BytesAt w0.heap.size w0 g.data.a g.data.len g.data.cap xs) := hX
  clear hX
  have hsv : Sl.val g.data = .slice g.data.a g.data.len g.data.cap := rfl
  obtain ⟨ns, ix, hL0⟩ := HP.out.log
  have HL : Hid (LogOk (bp + 1) w p.log ns ix S.A X) := hL0
  have hns' : ns.length ≤ 70000 := by rw [← hL0.clen]; exact hns
  clear hL0
  go_enter Try.func15, Try.ntmps15
  go_upto_region 4 with fail
  obtain ⟨bo, hbo⟩ : ∃ bo, bo = w.heap.size := ⟨_, rfl⟩
  rw [← hbo]
  refine wp_world (fun W => blk W bp = some p.enc ∧ free W bp = true ∧ blk W bo = some g.enc ∧ blk W (bo + 1) = some Answer.zero.enc ∧ free W (bo + 1) = true ∧ blk W (bo + 1 + 1) = some Answer.zero.enc ∧ free W (bo + 1 + 1) = true ∧ bo + 2 < W.heap.size ∧ Hid (w.Extends W) ∧ Hid (TyAt W (bo + 1) 50 ∧ TyAt W (bo + 1 + 1) 50)) ⟨?_, ?_, ?_, ?_, ?_, ?_, ?_, ?_, extends_alloc (extends_alloc (extends_alloc (ext_Ext (Ext.refl w)) _) _) _, ?_, ?_⟩ ?_
  · rw [blk_alloc, if_neg (by simp only [World.size_alloc]; omega), blk_alloc, if_neg (by simp only [World.size_alloc]; omega), blk_alloc, if_neg (by omega)]; exact HP.out.blk
  · rw [free_alloc, if_neg (by simp only [World.size_alloc]; omega), free_alloc, if_neg (by simp only [World.size_alloc]; omega), free_alloc, if_neg (by omega)]; exact HP.out.free
  · rw [hbo, blk_alloc, if_neg (by simp only [World.size_alloc]; omega), blk_alloc, if_neg (by simp only [World.size_alloc]; omega), blk_alloc, if_pos rfl]
  · rw [hbo, blk_alloc, if_neg (by simp only [World.size_alloc]; omega), blk_alloc, if_pos (by simp only [World.size_alloc])]
  · rw [hbo, free_alloc, if_neg (by simp only [World.size_alloc]; omega), free_alloc, if_pos (by simp only [World.size_alloc])]
  · rw [hbo, blk_alloc, if_pos (by simp only [World.size_alloc])]
  · rw [hbo, free_alloc, if_pos (by simp only [World.size_alloc])]
  · rw [hbo]; simp only [World.size_alloc]; omega
  · unfold TyAt
    rw [hbo, heap_alloc, if_neg (by simp only [World.size_alloc]; omega), heap_alloc, if_pos (by simp only [World.size_alloc])]
    exact ⟨_, _, rfl⟩
  · unfold TyAt
    rw [hbo, heap_alloc, if_pos (by simp only [World.size_alloc])]
    exact ⟨_, _, rfl⟩
  have hbpo : bp < bo := by omega
  have hwb : w.heap.size ≤ bo := by omega
  clear hbo
  have n1 : ¬ bp = bo + 1 + 1 := by omega
  have n2 : ¬ bo + 1 + 1 = bp := by omega
  have n3 : ¬ bo + 1 + 1 = bo := by omega
  have n4 : ¬ bo + 1 = bo + 1 + 1 := by omega
  have n5 : ¬ bo + 1 + 1 = bo + 1 := by omega
  have n6 : ¬ bo = bo + 1 + 1 := by omega
  rintro W ⟨hb1, hf1, hg1, ha1, haf1, hz1, hzf1, hsz1, HE1, HT1⟩
  have HP1 : Hid (PlayAt w0 bp p S X W) := HP.out.grow HE1.out
  have HBS1 : Hid (Beside bp w W ∧ w.heap.size ≤ W.heap.size) := ⟨.of_ext HE1.out, HE1.out.size⟩
  go_wp2_with fail
  refine wp_region_held_drew (S := fun W' => blk W' bo = some g.enc ∧ True) (by kernel_rfl) ⟨hg1, trivial⟩ (fun hHeld => ?_)
  refine wpAnyH_take (i := 0) (oi := ⟨_, _, _, _, _, _⟩) (v := ?_) rfl (by kernel_rfl) (by kernel_rfl) (by kernel_rfl) (fun _ _ _ h => h) (Or.inl ⟨by rfl, ?_⟩) (by assumption) ?_
  rotate_left 1
  · intro W' hSw
    obtain ⟨hS1, hS2⟩ := hSw
    go_simp
    try with_reducible rfl
  try simp only [Act.put, List.setIfInBounds_toArray, List.set_cons_zero, List.set_cons_succ]
  refine wpAnyH_take (i := 1) (oi := ⟨_, _, _, _, _, _⟩) (v := ?_) rfl (by kernel_rfl) (by kernel_rfl) (by kernel_rfl) (fun _ _ _ h => h) (Or.inl ⟨by rfl, ?_⟩) (by assumption) ?_
  rotate_left 1
  · intro W' hSw
    obtain ⟨hS1, hS2⟩ := hSw
    go_simp
    try with_reducible rfl
  try simp only [Act.put, List.setIfInBounds_toArray, List.set_cons_zero, List.set_cons_succ]
  refine wpAnyH_take (i := 2) (oi := ⟨_, _, _, _, _, _⟩) (v := ?_) rfl (by kernel_rfl) (by kernel_rfl) (by kernel_rfl) (fun _ _ _ h => h) (Or.inl ⟨by rfl, ?_⟩) (by assumption) ?_
  rotate_left 1
  · intro W' hSw
    obtain ⟨hS1, hS2⟩ := hSw
    go_simp
    try with_reducible rfl
  try simp only [Act.put, List.setIfInBounds_toArray, List.set_cons_zero, List.set_cons_succ]
  refine wpAnyH_take (i := 3) (oi := ⟨_, _, _, _, _, _⟩) (v := ?_) rfl (by kernel_rfl) (by kernel_rfl) (by kernel_rfl) (fun _ _ _ h => h) (Or.inl ⟨by rfl, ?_⟩) (by assumption) ?_
  rotate_left 1
  · intro W' hSw
    obtain ⟨hS1, hS2⟩ := hSw
    go_simp
    try with_reducible rfl
  try simp only [Act.put, List.setIfInBounds_toArray, List.set_cons_zero, List.set_cons_succ]
  refine wpAnyH_take (i := 4) (oi := ⟨_, _, _, _, _, _⟩) (v := ?_) rfl (by kernel_rfl) (by kernel_rfl) (by kernel_rfl) (fun _ _ _ h => h) (Or.inl ⟨by rfl, ?_⟩) (by assumption) ?_
  rotate_left 1
  · intro W' hSw
    obtain ⟨hS1, hS2⟩ := hSw
    go_simp
    try with_reducible rfl
  try simp only [Act.put, List.setIfInBounds_toArray, List.set_cons_zero, List.set_cons_succ]
  refine wpAnyH_take (i := 5) (oi := ⟨_, _, _, _, _, _⟩) (v := ?_) rfl (by kernel_rfl) (by kernel_rfl) (by kernel_rfl) (fun _ _ _ h => h) (Or.inl ⟨by rfl, ?_⟩) (by assumption) ?_
  rotate_left 1
  · intro W' hSw
    obtain ⟨hS1, hS2⟩ := hSw
    go_simp
    try with_reducible rfl
  try simp only [Act.put, List.setIfInBounds_toArray, List.set_cons_zero, List.set_cons_succ]
  refine wpAnyH_take (i := 6) (oi := ⟨_, _, _, _, _, _⟩) (v := ?_) rfl (by kernel_rfl) (by kernel_rfl) (by kernel_rfl) (fun _ _ _ h => h) (Or.inl ⟨by rfl, ?_⟩) (by assumption) ?_
  rotate_left 1
  · intro W' hSw
    obtain ⟨hS1, hS2⟩ := hSw
    go_simp
    try with_reducible rfl
  try simp only [Act.put, List.setIfInBounds_toArray, List.set_cons_zero, List.set_cons_succ]
  refine wpAnyH_ready (rs := [7]) (by kernel_rfl) (by simp) ?_
  refine AllReadyH.cons (o := ⟨_, _, _, _, _, _⟩) rfl (fun K hK => ?_) AllReadyH.nil
  go_simp
  refine (note_any W.drew (bp + 1) bp 212 p.enc p.log ns ix S.A X (fun k hk => Nat.lt_of_lt_of_le (HXW.out k hk) HE1.out.size) (W.heap.size + 1) g.data.a g.data.len g.data.cap xs g.sum (by rw [log_eq]; exact hb1) (by rw [Player.length_enc]; omega) hf1 (HL.out.grow (extends_drew HE1.out)) (show BytesAt (W.heap.size + 1) W _ _ _ _ from HX.out.at_new (fun k hk => HP1.out.ext.blk hk) (Nat.le_succ_of_le HP1.out.ext.size)) (by omega) hns' (show bp + 1 ≤ W.heap.size by omega) (by omega)).mono ?_
  rintro e W2 ⟨l', ns', ix', rfl, ho⟩
  obtain ⟨A', k, hna⟩ : ∃ A' k, (A', k) = noteA S.A (xs, g.sum) := ⟨_, _, rfl⟩
  rw [← hna] at ho ⊢
  dsimp only at ho ⊢
  have HNA : Hid ((A', k) = noteA S.A (xs, g.sum)) := hna
  have hk2 := HP.out.aside_of ho
  have hszw : W.heap.size ≤ W2.heap.size := ho.2.2.2.2.1
  have HP2 := (HP1.out.grow (extends_drew (ext_Ext (Ext.refl W)))).note ho
  obtain ⟨p1, hp1⟩ : ∃ p1 : Player, p1 = { p with log := l' } := ⟨_, rfl⟩
  rw [← hp1] at HP2
  have hpv1 : p1.prev = p.prev := by rw [hp1]
  have hpv2 : p1.last = p.last := by rw [hp1]
  have hb2 := HP2.blk
  have hf2 := HP2.free
  have HP2 : Hid (PlayAt w0 bp p1 { S with A := A' } X W2) := HP2
  have hg2 := (blk_of_heap (hk2 bo (by omega) (show bo < W.heap.size by omega))).trans hg1
  have ha2 := (blk_of_heap (hk2 (bo + 1) (by omega) (show bo + 1 < W.heap.size by omega))).trans ha1
  have haf2 := (free_of_heap (hk2 (bo + 1) (by omega) (show bo + 1 < W.heap.size by omega))).trans haf1
  have hz2 := (blk_of_heap (hk2 (bo + 1 + 1) (by omega) (show bo + 1 + 1 < W.heap.size by omega))).trans hz1
  have hzf2 := (free_of_heap (hk2 (bo + 1 + 1) (by omega) (show bo + 1 + 1 < W.heap.size by omega))).trans hzf1
  have HT2 : Hid (TyAt W2 (bo + 1) 50 ∧ TyAt W2 (bo + 1 + 1) 50) := ⟨HT1.out.1.of_heap (hk2 (bo + 1) (by omega) (show bo + 1 < W.heap.size by omega)), HT1.out.2.of_heap (hk2 (bo + 1 + 1) (by omega) (show bo + 1 + 1 < W.heap.size by omega))⟩
  have hsz2 : bo + 2 < W2.heap.size := by omega
  have HBS2 : Hid (Beside bp w W2 ∧ w.heap.size ≤ W2.heap.size) := ⟨HP.out.beside_of (extends_drew HE1.out) ho, Nat.le_trans HBS1.out.2 hszw⟩
  try dsimp only
  refine hK.out _ _ ?_ (fun hHeld => ?_)
  · exact ⟨hg2, trivial⟩
  clear hK K
  clear ho hk2 hp1 hna
  try simp only [Act.put, List.setIfInBounds_toArray, List.set_cons_zero, List.set_cons_succ]
  refine wpAnyH_take (i := 8) (oi := ⟨_, _, _, _, _, _⟩) (v := ?_) rfl (by kernel_rfl) (by kernel_rfl) (by kernel_rfl) (fun _ _ _ h => h) (Or.inl ⟨by rfl, ?_⟩) (by assumption) ?_
  rotate_left 1
  · intro W' hSw
    obtain ⟨hS1, hS2⟩ := hSw
    go_simp
    try with_reducible rfl
  try simp only [Act.put, List.setIfInBounds_toArray, List.set_cons_zero, List.set_cons_succ]
  refine wpAnyH_ready (rs := [9]) (by kernel_rfl) (by simp) ?_
  refine AllReadyH.cons (o := ⟨_, _, _, _, _, _⟩) rfl (fun K hK => ?_) AllReadyH.nil
  go_simp
  refine hK.out _ _ ?_ (fun hHeld => ?_)
  · exact ⟨by rw [blk_put, if_neg n6]; exact hg2, trivial⟩
  clear hK K
  try simp only [Act.put, List.setIfInBounds_toArray, List.set_cons_zero, List.set_cons_succ]
  refine wpAnyH_done (by kernel_rfl) ?_ _
  go_upto_region 38 with fail
  refine wp_world (fun W3 => blk W3 bp = some (p1 : Player).enc ∧ blk W3 (bo + 1) = some Answer.zero.enc ∧ free W3 (bo + 1) = true ∧ blk W3 (bo + 1 + 1) = some ({ Answer.zero with mark := k } : Answer).enc ∧ free W3 (bo + 1 + 1) = true ∧ Hid (PlayAt w0 bp (p1) ({ S with A := A' } : PS) X W3) ∧ Hid (TyAt W3 (bo + 1) 50 ∧ TyAt W3 (bo + 1 + 1) 50) ∧ Hid (Beside bp w W3)) ?_ ?_
  · refine ⟨?_, ?_, ?_, ?_, ?_, ?_, ?_, ?_⟩
    · rw [blk_put, if_neg n1]; exact hb2
    · rw [blk_put, if_neg n4]; exact ha2
    · rw [free_put]; exact haf2
    · rw [blk_put, if_pos rfl, hz2]; rfl
    · rw [free_put]; exact hzf2
    · exact HP2.out.put _ _ (by omega) (HT2.out.2.not_log (by decide))
    · exact ⟨HT2.out.1.put _ _, HT2.out.2.put _ _⟩
    · exact HBS2.out.1.put_new _ _ (by omega)
  clear hb1 hf1 hg1 ha1 haf1 hz1 hzf1 hsz1 HE1 HP1 HT1 HBS1 hb2 hf2 hz2 hzf2 ha2 haf2 hsz2 HP2 HT2 hg2 HBS2
  obtain ⟨p2, hp2⟩ : ∃ p2, p2 = (p1 : Player) := ⟨_, rfl⟩
  rw [← hp2]
  clear hp2
  obtain ⟨c2, hc2⟩ : ∃ c2, c2 = ({ Answer.zero with mark := k } : Answer).code := ⟨_, rfl⟩
  have HCC : Hid (c2 = ({ Answer.zero with mark := k } : Answer).code) := hc2
  clear hc2
  rintro W3 ⟨hb3, ha3, haf3, hz3, hzf3, HP3, HT3, HBS3⟩
  go_wp2_with fail
  refine (hlen_any W3 bp 0 p2.enc p2.hand (by rw [hand_eq]; exact hb3) (by rw [Player.length_enc]; omega)).mono ?_
  rintro e W4 ⟨rfl, rfl⟩
  go_wp2_with fail
  refine (loglen_any _ bp p2 (by rw [blk_put, if_neg n1]; exact hb3)).mono ?_
  rintro e W4 ⟨rfl, rfl⟩
  go_wp2_with fail
  refine (collided_any _ bp p2 (by rw [blk_put, if_neg n1]; exact hb3)).mono ?_
  rintro e W4 ⟨rfl, rfl⟩
  go_wp2_with fail
  refine ret_cell (C := ({ ({ Answer.zero with mark := k } : Answer) with len := p2.hand.length, noted := (p2.log.entries.len : Nat), collided := p2.log.found } : Answer).enc) rfl rfl ?_ (by kernel_rfl) (by rw [Answer.length_enc]; kernel_rfl) rfl ?_
  · rw [blk_put, if_pos rfl]
    simp only [blk_put, n4, if_false, ha3]
    rfl
  · rw [← HNA.out]
    refine ⟨p2, rfl, (HP3.out.put _ _ (by omega) (HT3.out.2.not_log (by decide))).put _ _ (by omega) ((HT3.out.1.put _ _).not_log (by decide)), (HBS3.out.put_new _ _ (by omega)).put_new _ _ (by omega)⟩
set_option maxRecDepth 20000 in
set_option maxHeartbeats 2000000 in
theorem step_10 (w0 w : World) (bp : Nat) (p : Player) (g : GOp) (S : PS) (X : Nat → Prop) (hXw : ∀ k, X k → k < w.heap.size) (hP : PlayAt w0 bp p S X w) (hk : g.kind = 10) (hns : S.A.es.length ≤ 70000) :
    Calls Try.prog 15 #[.pointer (some ⟨bp, 0, none⟩), .agg g.enc.toArray] w fun e w' => ∃ p' : Player, e = .returned (.agg (stepAns 0 (nodeD p.prev p.last) (noteA S.A (3 :: (p.prev.toList ++ p.last.toList), nodeD p.prev p.last)).2 p').enc.toArray) ∧ PlayAt w0 bp p' ({ S with prev := p.last, last := nodeD p.prev p.last, A := (noteA S.A (3 :: (p.prev.toList ++ p.last.toList), nodeD p.prev p.last)).1 } : PS) X w' ∧ Beside bp w w' := by
  have HP : Hid (PlayAt w0 bp p S X w) := hP
  have HXW : Hid (∀ k, X k → k < w.heap.size) := hXw
  clear hXw
  have hlt := hP.lt
  clear hP
  obtain ⟨ns, ix, hL0⟩ := HP.out.log
  have HL : Hid (LogOk (bp + 1) w p.log ns ix S.A X) := hL0
  have hns' : ns.length ≤ 70000 := by rw [← hL0.clen]; exact hns
  clear hL0
  go_enter Try.func15, Try.ntmps15
  go_upto_region 4 with fail
  obtain ⟨bo, hbo⟩ : ∃ bo, bo = w.heap.size := ⟨_, rfl⟩
  rw [← hbo]
  refine wp_world (fun W => blk W bp = some p.enc ∧ free W bp = true ∧ blk W bo = some g.enc ∧ blk W (bo + 1) = some Answer.zero.enc ∧ free W (bo + 1) = true ∧ blk W (bo + 1 + 1) = some Answer.zero.enc ∧ free W (bo + 1 + 1) = true ∧ bo + 2 < W.heap.size ∧ Hid (w.Extends W) ∧ Hid (TyAt W (bo + 1) 50 ∧ TyAt W (bo + 1 + 1) 50)) ⟨?_, ?_, ?_, ?_, ?_, ?_, ?_, ?_, extends_alloc (extends_alloc (extends_alloc (ext_Ext (Ext.refl w)) _) _) _, ?_, ?_⟩ ?_
  · rw [blk_alloc, if_neg (by simp only [World.size_alloc]; omega), blk_alloc, if_neg (by simp only [World.size_alloc]; omega), blk_alloc, if_neg (by omega)]; exact HP.out.blk
  · rw [free_alloc, if_neg (by simp only [World.size_alloc]; omega), free_alloc, if_neg (by simp only [World.size_alloc]; omega), free_alloc, if_neg (by omega)]; exact HP.out.free
  · rw [hbo, blk_alloc, if_neg (by simp only [World.size_alloc]; omega), blk_alloc, if_neg (by simp only [World.size_alloc]; omega), blk_alloc, if_pos rfl]
  · rw [hbo, blk_alloc, if_neg (by simp only [World.size_alloc]; omega), blk_alloc, if_pos (by simp only [World.size_alloc])]
  · rw [hbo, free_alloc, if_neg (by simp only [World.size_alloc]; omega), free_alloc, if_pos (by simp only [World.size_alloc])]
  · rw [hbo, blk_alloc, if_pos (by simp only [World.size_alloc])]
  · rw [hbo, free_alloc, if_pos (by simp only [World.size_alloc])]
  · rw [hbo]; simp only [World.size_alloc]; omega
  · unfold TyAt
    rw [hbo, heap_alloc, if_neg (by simp only [World.size_alloc]; omega), heap_alloc, if_pos (by simp only [World.size_alloc])]
    exact ⟨_, _, rfl⟩
  · unfold TyAt
    rw [hbo, heap_alloc, if_pos (by simp only [World.size_alloc])]
    exact ⟨_, _, rfl⟩
  have hbpo : bp < bo := by omega
  have hwb : w.heap.size ≤ bo := by omega
  clear hbo
  have n1 : ¬ bp = bo + 1 + 1 := by omega
  have n2 : ¬ bo + 1 + 1 = bp := by omega
  have n3 : ¬ bo + 1 + 1 = bo := by omega
  have n4 : ¬ bo + 1 = bo + 1 + 1 := by omega
  have n5 : ¬ bo + 1 + 1 = bo + 1 := by omega
  have n6 : ¬ bo = bo + 1 + 1 := by omega
  rintro W ⟨hb1, hf1, hg1, ha1, haf1, hz1, hzf1, hsz1, HE1, HT1⟩
  have HP1 : Hid (PlayAt w0 bp p S X W) := HP.out.grow HE1.out
  have HBS1 : Hid (Beside bp w W ∧ w.heap.size ≤ W.heap.size) := ⟨.of_ext HE1.out, HE1.out.size⟩
  go_wp2_with fail
  refine wp_region_held_drew (S := fun W' => (∃ P : Player, blk W' bp = some P.enc ∧ P.prev = p.prev ∧ P.last = p.last) ∧ True) (by kernel_rfl) ⟨⟨p, hb1, rfl, rfl⟩, trivial⟩ (fun hHeld => ?_)
  refine wpAnyH_take (i := 0) (oi := ⟨_, _, _, _, _, _⟩) (v := ?_) rfl (by kernel_rfl) (by kernel_rfl) (by kernel_rfl) (fun _ _ _ h => h) (Or.inl ⟨by rfl, ?_⟩) (by assumption) ?_
  rotate_left 1
  · intro W' hSw
    obtain ⟨⟨P', hS1, hS3, hS4⟩, hS2⟩ := hSw
    go_simp
    try with_reducible rfl
  try simp only [Act.put, List.setIfInBounds_toArray, List.set_cons_zero, List.set_cons_succ]
  refine wpAnyH_take (i := 1) (oi := ⟨_, _, _, _, _, _⟩) (v := ?_) rfl (by kernel_rfl) (by kernel_rfl) (by kernel_rfl) (fun _ _ _ h => h) (Or.inl ⟨by rfl, ?_⟩) (by assumption) ?_
  rotate_left 1
  · intro W' hSw
    obtain ⟨⟨P', hS1, hS3, hS4⟩, hS2⟩ := hSw
    go_simp
    try with_reducible rfl
  try simp only [Act.put, List.setIfInBounds_toArray, List.set_cons_zero, List.set_cons_succ]
  refine wpAnyH_take (i := 2) (oi := ⟨_, _, _, _, _, _⟩) (v := ?_) rfl (by kernel_rfl) (by kernel_rfl) (by kernel_rfl) (fun _ _ _ h => h) (Or.inl ⟨by rfl, ?_⟩) (by assumption) ?_
  rotate_left 1
  · intro W' hSw
    obtain ⟨⟨P', hS1, hS3, hS4⟩, hS2⟩ := hSw
    go_simp
    try with_reducible rfl
  try simp only [Act.put, List.setIfInBounds_toArray, List.set_cons_zero, List.set_cons_succ]
  refine wpAnyH_take (i := 3) (oi := ⟨_, _, _, _, _, _⟩) (v := ?_) rfl (by kernel_rfl) (by kernel_rfl) (by kernel_rfl) (fun _ _ _ h => h) (Or.inl ⟨by rfl, ?_⟩) (by assumption) ?_
  rotate_left 1
  · intro W' hSw
    obtain ⟨⟨P', hS1, hS3, hS4⟩, hS2⟩ := hSw
    go_simp
    try with_reducible rfl
  try simp only [Act.put, List.setIfInBounds_toArray, List.set_cons_zero, List.set_cons_succ]
  refine wpAnyH_take (i := 4) (oi := ⟨_, _, _, _, _, _⟩) (v := ?_) rfl (by kernel_rfl) (by kernel_rfl) (by kernel_rfl) (fun _ _ _ h => h) (Or.inl ⟨by rfl, ?_⟩) (by assumption) ?_
  rotate_left 1
  · intro W' hSw
    obtain ⟨⟨P', hS1, hS3, hS4⟩, hS2⟩ := hSw
    go_simp
    try with_reducible rfl
  try simp only [Act.put, List.setIfInBounds_toArray, List.set_cons_zero, List.set_cons_succ]
  refine wpAnyH_take (i := 5) (oi := ⟨_, _, _, _, _, _⟩) (v := ?_) rfl (by kernel_rfl) (by kernel_rfl) (by kernel_rfl) (fun _ _ _ h => h) (Or.inl ⟨by rfl, ?_⟩) (by assumption) ?_
  rotate_left 1
  · intro W' hSw
    obtain ⟨⟨P', hS1, hS3, hS4⟩, hS2⟩ := hSw
    go_simp
    try with_reducible rfl
  try simp only [Act.put, List.setIfInBounds_toArray, List.set_cons_zero, List.set_cons_succ]
  refine wpAnyH_take (i := 6) (oi := ⟨_, _, _, _, _, _⟩) (v := ?_) rfl (by kernel_rfl) (by kernel_rfl) (by kernel_rfl) (fun _ _ _ h => h) (Or.inl ⟨by rfl, ?_⟩) (by assumption) ?_
  rotate_left 1
  · intro W' hSw
    obtain ⟨⟨P', hS1, hS3, hS4⟩, hS2⟩ := hSw
    go_simp
    try with_reducible rfl
  try simp only [Act.put, List.setIfInBounds_toArray, List.set_cons_zero, List.set_cons_succ]
  refine wpAnyH_take (i := 7) (oi := ⟨_, _, _, _, _, _⟩) (v := ?_) rfl (by kernel_rfl) (by kernel_rfl) (by kernel_rfl) (fun _ _ _ h => h) (Or.inl ⟨by rfl, ?_⟩) (by assumption) ?_
  rotate_left 1
  · intro W' hSw
    obtain ⟨⟨P', hS1, hS3, hS4⟩, hS2⟩ := hSw
    go_simp
    try with_reducible rfl
  try simp only [Act.put, List.setIfInBounds_toArray, List.set_cons_zero, List.set_cons_succ]
  refine wpAnyH_take (i := 8) (oi := ⟨_, _, _, _, _, _⟩) (v := ?_) rfl (by kernel_rfl) (by kernel_rfl) (by kernel_rfl) (fun _ _ _ h => h) (Or.inl ⟨by rfl, ?_⟩) (by assumption) ?_
  rotate_left 1
  · intro W' hSw
    obtain ⟨⟨P', hS1, hS3, hS4⟩, hS2⟩ := hSw
    go_simp
    try with_reducible rfl
  try simp only [Act.put, List.setIfInBounds_toArray, List.set_cons_zero, List.set_cons_succ]
  refine wpAnyH_take (i := 9) (oi := ⟨_, _, _, _, _, _⟩) (v := ?_) rfl (by kernel_rfl) (by kernel_rfl) (by kernel_rfl) (fun _ _ _ h => h) (Or.inl ⟨by rfl, ?_⟩) (by assumption) ?_
  rotate_left 1
  · intro W' hSw
    obtain ⟨⟨P', hS1, hS3, hS4⟩, hS2⟩ := hSw
    go_simp
    try with_reducible rfl
  try simp only [Act.put, List.setIfInBounds_toArray, List.set_cons_zero, List.set_cons_succ]
  refine wpAnyH_take (i := 10) (oi := ⟨_, _, _, _, _, _⟩) (v := ?_) rfl (by kernel_rfl) (by kernel_rfl) (by kernel_rfl) (fun _ _ _ h => h) (Or.inl ⟨by rfl, ?_⟩) (by assumption) ?_
  rotate_left 1
  · intro W' hSw
    obtain ⟨⟨P', hS1, hS3, hS4⟩, hS2⟩ := hSw
    go_simp
    try with_reducible rfl
  try simp only [Act.put, List.setIfInBounds_toArray, List.set_cons_zero, List.set_cons_succ]
  refine wpAnyH_ready (rs := [11]) (by kernel_rfl) (by simp) ?_
  refine AllReadyH.cons (o := ⟨_, _, _, _, _, _⟩) rfl (fun K hK => ?_) AllReadyH.nil
  go_simp
  refine (logNode_any W.drew (bp + 1) bp 212 p.enc p.log ns ix S.A X (fun k hk => Nat.lt_of_lt_of_le (HXW.out k hk) HE1.out.size) p.prev p.last (by rw [log_eq]; exact hb1) (by rw [Player.length_enc]; omega) hf1 (HL.out.grow (extends_drew HE1.out)) hns' (show bp + 1 ≤ W.heap.size by omega) (by omega)).mono ?_
  rintro e W2 ⟨k, l', ns', ix', A', rfl, ho, hna⟩
  have HNA : Hid ((A', k) = noteA S.A (3 :: (p.prev.toList ++ p.last.toList), nodeD p.prev p.last)) := hna
  clear hna
  have hk2 := HP.out.aside_of ho
  have hszw : W.heap.size ≤ W2.heap.size := ho.2.2.2.2.1
  have HP2 := (HP1.out.grow (extends_drew (ext_Ext (Ext.refl W)))).note ho
  obtain ⟨p1, hp1⟩ : ∃ p1 : Player, p1 = { p with log := l' } := ⟨_, rfl⟩
  rw [← hp1] at HP2
  have hpv1 : p1.prev = p.prev := by rw [hp1]
  have hpv2 : p1.last = p.last := by rw [hp1]
  have hb2 := HP2.blk
  have hf2 := HP2.free
  have HP2 : Hid (PlayAt w0 bp p1 { S with A := A' } X W2) := HP2
  have hg2 := (blk_of_heap (hk2 bo (by omega) (show bo < W.heap.size by omega))).trans hg1
  have ha2 := (blk_of_heap (hk2 (bo + 1) (by omega) (show bo + 1 < W.heap.size by omega))).trans ha1
  have haf2 := (free_of_heap (hk2 (bo + 1) (by omega) (show bo + 1 < W.heap.size by omega))).trans haf1
  have hz2 := (blk_of_heap (hk2 (bo + 1 + 1) (by omega) (show bo + 1 + 1 < W.heap.size by omega))).trans hz1
  have hzf2 := (free_of_heap (hk2 (bo + 1 + 1) (by omega) (show bo + 1 + 1 < W.heap.size by omega))).trans hzf1
  have HT2 : Hid (TyAt W2 (bo + 1) 50 ∧ TyAt W2 (bo + 1 + 1) 50) := ⟨HT1.out.1.of_heap (hk2 (bo + 1) (by omega) (show bo + 1 < W.heap.size by omega)), HT1.out.2.of_heap (hk2 (bo + 1 + 1) (by omega) (show bo + 1 + 1 < W.heap.size by omega))⟩
  have hsz2 : bo + 2 < W2.heap.size := by omega
  have HBS2 : Hid (Beside bp w W2 ∧ w.heap.size ≤ W2.heap.size) := ⟨HP.out.beside_of (extends_drew HE1.out) ho, Nat.le_trans HBS1.out.2 hszw⟩
  obtain ⟨sm, hsm⟩ : ∃ sm, sm = nodeD p.prev p.last := ⟨_, rfl⟩
  rw [← hsm]
  have HSM : Hid (sm = nodeD p.prev p.last) := hsm
  try dsimp only
  refine hK.out _ _ ?_ (fun hHeld => ?_)
  · exact ⟨⟨p1, hb2, hpv1, hpv2⟩, trivial⟩
  clear hK K
  clear ho hk2 hp1 hsm
  try simp only [Act.put, List.setIfInBounds_toArray, List.set_cons_zero, List.set_cons_succ]
  refine wpAnyH_take (i := 12) (oi := ⟨_, _, _, _, _, _⟩) (v := ?_) rfl (by kernel_rfl) (by kernel_rfl) (by kernel_rfl) (fun _ _ _ h => h) (Or.inl ⟨by rfl, ?_⟩) (by assumption) ?_
  rotate_left 1
  · intro W' hSw
    obtain ⟨⟨P', hS1, hS3, hS4⟩, hS2⟩ := hSw
    go_simp
    try with_reducible rfl
  try simp only [Act.put, List.setIfInBounds_toArray, List.set_cons_zero, List.set_cons_succ]
  refine wpAnyH_take (i := 13) (oi := ⟨_, _, _, _, _, _⟩) (v := ?_) rfl (by kernel_rfl) (by kernel_rfl) (by kernel_rfl) (fun _ _ _ h => h) (Or.inl ⟨by rfl, ?_⟩) (by assumption) ?_
  rotate_left 1
  · intro W' hSw
    obtain ⟨⟨P', hS1, hS3, hS4⟩, hS2⟩ := hSw
    go_simp
    try with_reducible rfl
  try simp only [Act.put, List.setIfInBounds_toArray, List.set_cons_zero, List.set_cons_succ]
  refine wpAnyH_take (i := 14) (oi := ⟨_, _, _, _, _, _⟩) (v := ?_) rfl (by kernel_rfl) (by kernel_rfl) (by kernel_rfl) (fun _ _ _ h => h) (Or.inl ⟨by rfl, ?_⟩) (by assumption) ?_
  rotate_left 1
  · intro W' hSw
    obtain ⟨⟨P', hS1, hS3, hS4⟩, hS2⟩ := hSw
    go_simp
    try with_reducible rfl
  try simp only [Act.put, List.setIfInBounds_toArray, List.set_cons_zero, List.set_cons_succ]
  refine wpAnyH_take (i := 15) (oi := ⟨_, _, _, _, _, _⟩) (v := ?_) rfl (by kernel_rfl) (by kernel_rfl) (by kernel_rfl) (fun _ _ _ h => h) (Or.inl ⟨by rfl, ?_⟩) (by assumption) ?_
  rotate_left 1
  · intro W' hSw
    obtain ⟨⟨P', hS1, hS3, hS4⟩, hS2⟩ := hSw
    go_simp
    try with_reducible rfl
  try simp only [Act.put, List.setIfInBounds_toArray, List.set_cons_zero, List.set_cons_succ]
  refine wpAnyH_ready (rs := [16]) (by kernel_rfl) (by simp) ?_
  refine AllReadyH.cons (o := ⟨_, _, _, _, _, _⟩) rfl (fun K hK => ?_) AllReadyH.nil
  go_simp
  refine hK.out _ _ ?_ (fun hHeld => ?_)
  · exact ⟨⟨p1, by rw [blk_put, if_neg n1]; exact hb2, hpv1, hpv2⟩, trivial⟩
  clear hK K
  try simp only [Act.put, List.setIfInBounds_toArray, List.set_cons_zero, List.set_cons_succ]
  refine wpAnyH_take (i := 17) (oi := ⟨_, _, _, _, _, _⟩) (v := ?_) rfl (by kernel_rfl) (by kernel_rfl) (by kernel_rfl) (fun _ _ _ h => h) (Or.inl ⟨by rfl, ?_⟩) (by assumption) ?_
  rotate_left 1
  · intro W' hSw
    obtain ⟨⟨P', hS1, hS3, hS4⟩, hS2⟩ := hSw
    go_simp
    try with_reducible rfl
  try simp only [Act.put, List.setIfInBounds_toArray, List.set_cons_zero, List.set_cons_succ]
  refine wpAnyH_ready (rs := [18]) (by kernel_rfl) (by simp) ?_
  refine AllReadyH.cons (o := ⟨_, _, _, _, _, _⟩) rfl (fun K hK => ?_) AllReadyH.nil
  go_simp
  refine hK.out _ _ ?_ (fun hHeld => ?_)
  · exact ⟨⟨p1, by rw [blk_put, if_neg n1]; exact hb2, hpv1, hpv2⟩, trivial⟩
  clear hK K
  try simp only [Act.put, List.setIfInBounds_toArray, List.set_cons_zero, List.set_cons_succ]
  refine wpAnyH_done (by kernel_rfl) ?_ _
  have HPV2 : Hid (p1.last = p.last) := hpv2
  clear hpv1 hpv2
  go_wp2_with fail
  refine (answer_any _ bp p1 sm (by rw [blk_put, if_neg n1]; exact hb2) (by rw [free_put]; exact hf2)).mono ?_
  rintro e W5 ⟨rfl, ho⟩
  have HO5 : Hid (Out (put W2 (bo + 1 + 1) ({ Answer.zero with sum := sm, mark := k } : Answer).enc) W5 bp ({ p1 with prev := p1.last, last := sm } : Player).enc) := ho
  clear ho
  go_upto_region 38 with fail
  refine wp_world (fun W3 => blk W3 bp = some ({ p1 with prev := p1.last, last := sm } : Player).enc ∧ blk W3 (bo + 1) = some Answer.zero.enc ∧ free W3 (bo + 1) = true ∧ blk W3 (bo + 1 + 1) = some ({ Answer.zero with sum := sm, mark := k } : Answer).enc ∧ free W3 (bo + 1 + 1) = true ∧ Hid (PlayAt w0 bp ({ p1 with prev := p1.last, last := sm }) ({ S with prev := p.last, last := sm, A := A' } : PS) X W3) ∧ Hid (TyAt W3 (bo + 1) 50 ∧ TyAt W3 (bo + 1 + 1) 50) ∧ Hid (Beside bp w W3)) ?_ ?_
  · have hszp := HO5.out.size
    rw [size_put] at hszp
    refine ⟨?_, ?_, ?_, ?_, ?_, ?_, ?_, ?_⟩
    · exact HO5.out.blk_at (C := p1.enc) (by rw [blk_put, if_neg n1]; exact hb2)
    · rw [HO5.out.blk_other (by rw [size_put]; omega) (by omega), blk_put, if_neg n4]; exact ha2
    · rw [HO5.out.free (by rw [size_put]; omega), free_put]; exact haf2
    · rw [HO5.out.blk_other (by rw [size_put]; omega) (by omega), blk_put, if_pos rfl, hz2]; rfl
    · rw [HO5.out.free (by rw [size_put]; omega), free_put]; exact hzf2
    · exact (HP2.out.put _ _ (by omega) (HT2.out.2.not_log (by decide))).step (S' := ({ S with prev := p.last, last := sm, A := A' } : PS)) HO5.out HP2.out.rh HP2.out.ra rfl HPV2.out rfl rfl
    · exact ⟨(HT2.out.1.put _ _).out HO5.out, (HT2.out.2.put _ _).out HO5.out⟩
    · exact (HBS2.out.1.put_new _ _ (by omega)).out (by rw [size_put]; exact HBS2.out.2) HO5.out
  clear hb1 hf1 hg1 ha1 haf1 hz1 hzf1 hsz1 HE1 HP1 HT1 HBS1 hb2 hf2 hz2 hzf2 ha2 haf2 hsz2 HP2 HT2 hg2 HBS2 HO5
  obtain ⟨p2, hp2⟩ : ∃ p2, p2 = ({ p1 with prev := p1.last, last := sm } : Player) := ⟨_, rfl⟩
  rw [← hp2]
  clear hp2
  obtain ⟨c2, hc2⟩ : ∃ c2, c2 = ({ Answer.zero with sum := sm, mark := k } : Answer).code := ⟨_, rfl⟩
  have HCC : Hid (c2 = ({ Answer.zero with sum := sm, mark := k } : Answer).code) := hc2
  clear hc2
  rintro W3 ⟨hb3, ha3, haf3, hz3, hzf3, HP3, HT3, HBS3⟩
  go_wp2_with fail
  refine (hlen_any W3 bp 0 p2.enc p2.hand (by rw [hand_eq]; exact hb3) (by rw [Player.length_enc]; omega)).mono ?_
  rintro e W4 ⟨rfl, rfl⟩
  go_wp2_with fail
  refine (loglen_any _ bp p2 (by rw [blk_put, if_neg n1]; exact hb3)).mono ?_
  rintro e W4 ⟨rfl, rfl⟩
  go_wp2_with fail
  refine (collided_any _ bp p2 (by rw [blk_put, if_neg n1]; exact hb3)).mono ?_
  rintro e W4 ⟨rfl, rfl⟩
  go_wp2_with fail
  refine ret_cell (C := ({ ({ Answer.zero with sum := sm, mark := k } : Answer) with len := p2.hand.length, noted := (p2.log.entries.len : Nat), collided := p2.log.found } : Answer).enc) rfl rfl ?_ (by kernel_rfl) (by rw [Answer.length_enc]; kernel_rfl) rfl ?_
  · rw [blk_put, if_pos rfl]
    simp only [blk_put, n4, if_false, ha3]
    rfl
  · rw [← HNA.out, ← HSM.out]
    refine ⟨p2, rfl, (HP3.out.put _ _ (by omega) (HT3.out.2.not_log (by decide))).put _ _ (by omega) ((HT3.out.1.put _ _).not_log (by decide)), (HBS3.out.put_new _ _ (by omega)).put_new _ _ (by omega)⟩
set_option maxRecDepth 20000 in
set_option maxHeartbeats 2000000 in
theorem step_9 (w0 w : World) (bp : Nat) (p : Player) (g : GOp) (S : PS) (X : Nat → Prop) (hXw : ∀ k, X k → k < w.heap.size) (xs : List UInt8) (hP : PlayAt w0 bp p S X w) (hk : g.kind = 9) (hX : BytesAt w0.heap.size w0 g.data.a g.data.len g.data.cap xs) (hdl : g.data.len ≤ 65536) (hns : S.A.es.length ≤ 70000) (hd : okDom g.dom = true) :
    Calls Try.prog 15 #[.pointer (some ⟨bp, 0, none⟩), .agg g.enc.toArray] w fun e w' => ∃ p' : Player, e = .returned (.agg (stepAns 0 (sha (g.dom :: xs)) (noteA S.A (g.dom :: xs, sha (g.dom :: xs))).2 p').enc.toArray) ∧ PlayAt w0 bp p' ({ S with prev := S.last, last := sha (g.dom :: xs), A := (noteA S.A (g.dom :: xs, sha (g.dom :: xs))).1 } : PS) X w' ∧ Beside bp w w' := by
  have HP : Hid (PlayAt w0 bp p S X w) := hP
  have HXW : Hid (∀ k, X k → k < w.heap.size) := hXw
  clear hXw
  have hlt := hP.lt
  clear hP
  have HX : Hid (BytesAt w0.heap.size w0 g.data.a g.data.len g.data.cap xs) := hX
  clear hX
  have hsv : Sl.val g.data = .slice g.data.a g.data.len g.data.cap := rfl
  obtain ⟨ns, ix, hL0⟩ := HP.out.log
  have HL : Hid (LogOk (bp + 1) w p.log ns ix S.A X) := hL0
  have hns' : ns.length ≤ 70000 := by rw [← hL0.clen]; exact hns
  clear hL0
  go_enter Try.func15, Try.ntmps15
  go_upto_region 4 with fail
  obtain ⟨bo, hbo⟩ : ∃ bo, bo = w.heap.size := ⟨_, rfl⟩
  rw [← hbo]
  refine wp_world (fun W => blk W bp = some p.enc ∧ free W bp = true ∧ blk W bo = some g.enc ∧ blk W (bo + 1) = some Answer.zero.enc ∧ free W (bo + 1) = true ∧ blk W (bo + 1 + 1) = some Answer.zero.enc ∧ free W (bo + 1 + 1) = true ∧ bo + 2 < W.heap.size ∧ Hid (w.Extends W) ∧ Hid (TyAt W (bo + 1) 50 ∧ TyAt W (bo + 1 + 1) 50)) ⟨?_, ?_, ?_, ?_, ?_, ?_, ?_, ?_, extends_alloc (extends_alloc (extends_alloc (ext_Ext (Ext.refl w)) _) _) _, ?_, ?_⟩ ?_
  · rw [blk_alloc, if_neg (by simp only [World.size_alloc]; omega), blk_alloc, if_neg (by simp only [World.size_alloc]; omega), blk_alloc, if_neg (by omega)]; exact HP.out.blk
  · rw [free_alloc, if_neg (by simp only [World.size_alloc]; omega), free_alloc, if_neg (by simp only [World.size_alloc]; omega), free_alloc, if_neg (by omega)]; exact HP.out.free
  · rw [hbo, blk_alloc, if_neg (by simp only [World.size_alloc]; omega), blk_alloc, if_neg (by simp only [World.size_alloc]; omega), blk_alloc, if_pos rfl]
  · rw [hbo, blk_alloc, if_neg (by simp only [World.size_alloc]; omega), blk_alloc, if_pos (by simp only [World.size_alloc])]
  · rw [hbo, free_alloc, if_neg (by simp only [World.size_alloc]; omega), free_alloc, if_pos (by simp only [World.size_alloc])]
  · rw [hbo, blk_alloc, if_pos (by simp only [World.size_alloc])]
  · rw [hbo, free_alloc, if_pos (by simp only [World.size_alloc])]
  · rw [hbo]; simp only [World.size_alloc]; omega
  · unfold TyAt
    rw [hbo, heap_alloc, if_neg (by simp only [World.size_alloc]; omega), heap_alloc, if_pos (by simp only [World.size_alloc])]
    exact ⟨_, _, rfl⟩
  · unfold TyAt
    rw [hbo, heap_alloc, if_pos (by simp only [World.size_alloc])]
    exact ⟨_, _, rfl⟩
  have hbpo : bp < bo := by omega
  have hwb : w.heap.size ≤ bo := by omega
  clear hbo
  have n1 : ¬ bp = bo + 1 + 1 := by omega
  have n2 : ¬ bo + 1 + 1 = bp := by omega
  have n3 : ¬ bo + 1 + 1 = bo := by omega
  have n4 : ¬ bo + 1 = bo + 1 + 1 := by omega
  have n5 : ¬ bo + 1 + 1 = bo + 1 := by omega
  have n6 : ¬ bo = bo + 1 + 1 := by omega
  rintro W ⟨hb1, hf1, hg1, ha1, haf1, hz1, hzf1, hsz1, HE1, HT1⟩
  have HP1 : Hid (PlayAt w0 bp p S X W) := HP.out.grow HE1.out
  have HBS1 : Hid (Beside bp w W ∧ w.heap.size ≤ W.heap.size) := ⟨.of_ext HE1.out, HE1.out.size⟩
  go_wp2_with fail
  refine wp_region_held_drew (S := fun W' => blk W' bo = some g.enc ∧ True) (by kernel_rfl) ⟨hg1, trivial⟩ (fun hHeld => ?_)
  refine wpAnyH_take (i := 0) (oi := ⟨_, _, _, _, _, _⟩) (v := ?_) rfl (by kernel_rfl) (by kernel_rfl) (by kernel_rfl) (fun _ _ _ h => h) (Or.inl ⟨by rfl, ?_⟩) (by assumption) ?_
  rotate_left 1
  · intro W' hSw
    obtain ⟨hS1, hS2⟩ := hSw
    go_simp
    try with_reducible rfl
  try simp only [Act.put, List.setIfInBounds_toArray, List.set_cons_zero, List.set_cons_succ]
  refine wpAnyH_take (i := 1) (oi := ⟨_, _, _, _, _, _⟩) (v := ?_) rfl (by kernel_rfl) (by kernel_rfl) (by kernel_rfl) (fun _ _ _ h => h) (Or.inl ⟨by rfl, ?_⟩) (by assumption) ?_
  rotate_left 1
  · intro W' hSw
    obtain ⟨hS1, hS2⟩ := hSw
    go_simp
    try with_reducible rfl
  try simp only [Act.put, List.setIfInBounds_toArray, List.set_cons_zero, List.set_cons_succ]
  refine wpAnyH_take (i := 2) (oi := ⟨_, _, _, _, _, _⟩) (v := ?_) rfl (by kernel_rfl) (by kernel_rfl) (by kernel_rfl) (fun _ _ _ h => h) (Or.inl ⟨by rfl, ?_⟩) (by assumption) ?_
  rotate_left 1
  · intro W' hSw
    obtain ⟨hS1, hS2⟩ := hSw
    go_simp
    try with_reducible rfl
  try simp only [Act.put, List.setIfInBounds_toArray, List.set_cons_zero, List.set_cons_succ]
  refine wpAnyH_take (i := 3) (oi := ⟨_, _, _, _, _, _⟩) (v := ?_) rfl (by kernel_rfl) (by kernel_rfl) (by kernel_rfl) (fun _ _ _ h => h) (Or.inl ⟨by rfl, ?_⟩) (by assumption) ?_
  rotate_left 1
  · intro W' hSw
    obtain ⟨hS1, hS2⟩ := hSw
    go_simp
    try with_reducible rfl
  try simp only [Act.put, List.setIfInBounds_toArray, List.set_cons_zero, List.set_cons_succ]
  refine wpAnyH_take (i := 4) (oi := ⟨_, _, _, _, _, _⟩) (v := ?_) rfl (by kernel_rfl) (by kernel_rfl) (by kernel_rfl) (fun _ _ _ h => h) (Or.inl ⟨by rfl, ?_⟩) (by assumption) ?_
  rotate_left 1
  · intro W' hSw
    obtain ⟨hS1, hS2⟩ := hSw
    go_simp
    try with_reducible rfl
  try simp only [Act.put, List.setIfInBounds_toArray, List.set_cons_zero, List.set_cons_succ]
  refine wpAnyH_take (i := 5) (oi := ⟨_, _, _, _, _, _⟩) (v := ?_) rfl (by kernel_rfl) (by kernel_rfl) (by kernel_rfl) (fun _ _ _ h => h) (Or.inl ⟨by rfl, ?_⟩) (by assumption) ?_
  rotate_left 1
  · intro W' hSw
    obtain ⟨hS1, hS2⟩ := hSw
    go_simp
    try with_reducible rfl
  try simp only [Act.put, List.setIfInBounds_toArray, List.set_cons_zero, List.set_cons_succ]
  refine wpAnyH_take (i := 6) (oi := ⟨_, _, _, _, _, _⟩) (v := ?_) rfl (by kernel_rfl) (by kernel_rfl) (by kernel_rfl) (fun _ _ _ h => h) (Or.inl ⟨by rfl, ?_⟩) (by assumption) ?_
  rotate_left 1
  · intro W' hSw
    obtain ⟨hS1, hS2⟩ := hSw
    go_simp
    try with_reducible rfl
  try simp only [Act.put, List.setIfInBounds_toArray, List.set_cons_zero, List.set_cons_succ]
  refine wpAnyH_ready (rs := [7]) (by kernel_rfl) (by simp) ?_
  refine AllReadyH.cons (o := ⟨_, _, _, _, _, _⟩) rfl (fun K hK => ?_) AllReadyH.nil
  go_simp
  refine (logTagged_ok W.drew (bp + 1) bp 212 p.enc p.log ns ix S.A X (fun k hk => Nat.lt_of_lt_of_le (HXW.out k hk) HE1.out.size) (W.heap.size + 1) g.dom g.data.a g.data.len g.data.cap xs (by rw [log_eq]; exact hb1) (by rw [Player.length_enc]; omega) hf1 (HL.out.grow (extends_drew HE1.out)) (show BytesAt (W.heap.size + 1) W _ _ _ _ from HX.out.at_new (fun k hk => HP1.out.ext.blk hk) (Nat.le_succ_of_le HP1.out.ext.size)) (by omega) hns' (show bp + 1 ≤ W.heap.size by omega) (by omega) hd).mono ?_
  rintro e W2 ⟨k, l', ns', ix', A', rfl, ho, hna⟩
  have HNA : Hid ((A', k) = noteA S.A (g.dom :: xs, sha (g.dom :: xs))) := hna
  clear hna
  have hk2 := HP.out.aside_of ho
  have hszw : W.heap.size ≤ W2.heap.size := ho.2.2.2.2.1
  have HP2 := (HP1.out.grow (extends_drew (ext_Ext (Ext.refl W)))).note ho
  obtain ⟨p1, hp1⟩ : ∃ p1 : Player, p1 = { p with log := l' } := ⟨_, rfl⟩
  rw [← hp1] at HP2
  have hpv1 : p1.prev = p.prev := by rw [hp1]
  have hpv2 : p1.last = p.last := by rw [hp1]
  have hb2 := HP2.blk
  have hf2 := HP2.free
  have HP2 : Hid (PlayAt w0 bp p1 { S with A := A' } X W2) := HP2
  have hg2 := (blk_of_heap (hk2 bo (by omega) (show bo < W.heap.size by omega))).trans hg1
  have ha2 := (blk_of_heap (hk2 (bo + 1) (by omega) (show bo + 1 < W.heap.size by omega))).trans ha1
  have haf2 := (free_of_heap (hk2 (bo + 1) (by omega) (show bo + 1 < W.heap.size by omega))).trans haf1
  have hz2 := (blk_of_heap (hk2 (bo + 1 + 1) (by omega) (show bo + 1 + 1 < W.heap.size by omega))).trans hz1
  have hzf2 := (free_of_heap (hk2 (bo + 1 + 1) (by omega) (show bo + 1 + 1 < W.heap.size by omega))).trans hzf1
  have HT2 : Hid (TyAt W2 (bo + 1) 50 ∧ TyAt W2 (bo + 1 + 1) 50) := ⟨HT1.out.1.of_heap (hk2 (bo + 1) (by omega) (show bo + 1 < W.heap.size by omega)), HT1.out.2.of_heap (hk2 (bo + 1 + 1) (by omega) (show bo + 1 + 1 < W.heap.size by omega))⟩
  have hsz2 : bo + 2 < W2.heap.size := by omega
  have HBS2 : Hid (Beside bp w W2 ∧ w.heap.size ≤ W2.heap.size) := ⟨HP.out.beside_of (extends_drew HE1.out) ho, Nat.le_trans HBS1.out.2 hszw⟩
  obtain ⟨sm, hsm⟩ : ∃ sm, sm = sha (g.dom :: xs) := ⟨_, rfl⟩
  rw [← hsm]
  have HSM : Hid (sm = sha (g.dom :: xs)) := hsm
  try dsimp only
  refine hK.out _ _ ?_ (fun hHeld => ?_)
  · exact ⟨hg2, trivial⟩
  clear hK K
  clear ho hk2 hp1 hsm
  try simp only [Act.put, List.setIfInBounds_toArray, List.set_cons_zero, List.set_cons_succ]
  refine wpAnyH_take (i := 8) (oi := ⟨_, _, _, _, _, _⟩) (v := ?_) rfl (by kernel_rfl) (by kernel_rfl) (by kernel_rfl) (fun _ _ _ h => h) (Or.inl ⟨by rfl, ?_⟩) (by assumption) ?_
  rotate_left 1
  · intro W' hSw
    obtain ⟨hS1, hS2⟩ := hSw
    go_simp
    try with_reducible rfl
  try simp only [Act.put, List.setIfInBounds_toArray, List.set_cons_zero, List.set_cons_succ]
  refine wpAnyH_take (i := 9) (oi := ⟨_, _, _, _, _, _⟩) (v := ?_) rfl (by kernel_rfl) (by kernel_rfl) (by kernel_rfl) (fun _ _ _ h => h) (Or.inl ⟨by rfl, ?_⟩) (by assumption) ?_
  rotate_left 1
  · intro W' hSw
    obtain ⟨hS1, hS2⟩ := hSw
    go_simp
    try with_reducible rfl
  try simp only [Act.put, List.setIfInBounds_toArray, List.set_cons_zero, List.set_cons_succ]
  refine wpAnyH_take (i := 10) (oi := ⟨_, _, _, _, _, _⟩) (v := ?_) rfl (by kernel_rfl) (by kernel_rfl) (by kernel_rfl) (fun _ _ _ h => h) (Or.inl ⟨by rfl, ?_⟩) (by assumption) ?_
  rotate_left 1
  · intro W' hSw
    obtain ⟨hS1, hS2⟩ := hSw
    go_simp
    try with_reducible rfl
  try simp only [Act.put, List.setIfInBounds_toArray, List.set_cons_zero, List.set_cons_succ]
  refine wpAnyH_take (i := 11) (oi := ⟨_, _, _, _, _, _⟩) (v := ?_) rfl (by kernel_rfl) (by kernel_rfl) (by kernel_rfl) (fun _ _ _ h => h) (Or.inl ⟨by rfl, ?_⟩) (by assumption) ?_
  rotate_left 1
  · intro W' hSw
    obtain ⟨hS1, hS2⟩ := hSw
    go_simp
    try with_reducible rfl
  try simp only [Act.put, List.setIfInBounds_toArray, List.set_cons_zero, List.set_cons_succ]
  refine wpAnyH_take (i := 12) (oi := ⟨_, _, _, _, _, _⟩) (v := ?_) rfl (by kernel_rfl) (by kernel_rfl) (by kernel_rfl) (fun _ _ _ h => h) (Or.inl ⟨by rfl, ?_⟩) (by assumption) ?_
  rotate_left 1
  · intro W' hSw
    obtain ⟨hS1, hS2⟩ := hSw
    go_simp
    try with_reducible rfl
  try simp only [Act.put, List.setIfInBounds_toArray, List.set_cons_zero, List.set_cons_succ]
  refine wpAnyH_ready (rs := [13]) (by kernel_rfl) (by simp) ?_
  refine AllReadyH.cons (o := ⟨_, _, _, _, _, _⟩) rfl (fun K hK => ?_) AllReadyH.nil
  go_simp
  refine hK.out _ _ ?_ (fun hHeld => ?_)
  · exact ⟨by rw [blk_put, if_neg n6]; exact hg2, trivial⟩
  clear hK K
  try simp only [Act.put, List.setIfInBounds_toArray, List.set_cons_zero, List.set_cons_succ]
  refine wpAnyH_take (i := 14) (oi := ⟨_, _, _, _, _, _⟩) (v := ?_) rfl (by kernel_rfl) (by kernel_rfl) (by kernel_rfl) (fun _ _ _ h => h) (Or.inl ⟨by rfl, ?_⟩) (by assumption) ?_
  rotate_left 1
  · intro W' hSw
    obtain ⟨hS1, hS2⟩ := hSw
    go_simp
    try with_reducible rfl
  try simp only [Act.put, List.setIfInBounds_toArray, List.set_cons_zero, List.set_cons_succ]
  refine wpAnyH_ready (rs := [15]) (by kernel_rfl) (by simp) ?_
  refine AllReadyH.cons (o := ⟨_, _, _, _, _, _⟩) rfl (fun K hK => ?_) AllReadyH.nil
  go_simp
  refine hK.out _ _ ?_ (fun hHeld => ?_)
  · exact ⟨by rw [blk_put, if_neg n6]; exact hg2, trivial⟩
  clear hK K
  try simp only [Act.put, List.setIfInBounds_toArray, List.set_cons_zero, List.set_cons_succ]
  refine wpAnyH_take (i := 16) (oi := ⟨_, _, _, _, _, _⟩) (v := ?_) rfl (by kernel_rfl) (by kernel_rfl) (by kernel_rfl) (fun _ _ _ h => h) (Or.inl ⟨by rfl, ?_⟩) (by assumption) ?_
  rotate_left 1
  · intro W' hSw
    obtain ⟨hS1, hS2⟩ := hSw
    go_simp
    try with_reducible rfl
  try simp only [Act.put, List.setIfInBounds_toArray, List.set_cons_zero, List.set_cons_succ]
  refine wpAnyH_ready (rs := [17]) (by kernel_rfl) (by simp) ?_
  refine AllReadyH.cons (o := ⟨_, _, _, _, _, _⟩) rfl (fun K hK => ?_) AllReadyH.nil
  go_simp
  refine hK.out _ _ ?_ (fun hHeld => ?_)
  · exact ⟨by rw [blk_put, if_neg n6]; exact hg2, trivial⟩
  clear hK K
  try simp only [Act.put, List.setIfInBounds_toArray, List.set_cons_zero, List.set_cons_succ]
  refine wpAnyH_done (by kernel_rfl) ?_ _
  go_wp2_with fail
  refine (answer_any _ bp p1 sm (by rw [blk_put, if_neg n1]; exact hb2) (by rw [free_put]; exact hf2)).mono ?_
  rintro e W5 ⟨rfl, ho⟩
  have HO5 : Hid (Out (put W2 (bo + 1 + 1) ({ Answer.zero with sum := sm, mark := k, code := 0 } : Answer).enc) W5 bp ({ p1 with prev := p1.last, last := sm } : Player).enc) := ho
  clear ho
  go_upto_region 38 with fail
  refine wp_world (fun W3 => blk W3 bp = some ({ p1 with prev := p1.last, last := sm } : Player).enc ∧ blk W3 (bo + 1) = some Answer.zero.enc ∧ free W3 (bo + 1) = true ∧ blk W3 (bo + 1 + 1) = some ({ Answer.zero with sum := sm, mark := k, code := 0 } : Answer).enc ∧ free W3 (bo + 1 + 1) = true ∧ Hid (PlayAt w0 bp ({ p1 with prev := p1.last, last := sm }) ({ S with prev := S.last, last := sm, A := A' } : PS) X W3) ∧ Hid (TyAt W3 (bo + 1) 50 ∧ TyAt W3 (bo + 1 + 1) 50) ∧ Hid (Beside bp w W3)) ?_ ?_
  · have hszp := HO5.out.size
    rw [size_put] at hszp
    refine ⟨?_, ?_, ?_, ?_, ?_, ?_, ?_, ?_⟩
    · exact HO5.out.blk_at (C := p1.enc) (by rw [blk_put, if_neg n1]; exact hb2)
    · rw [HO5.out.blk_other (by rw [size_put]; omega) (by omega), blk_put, if_neg n4]; exact ha2
    · rw [HO5.out.free (by rw [size_put]; omega), free_put]; exact haf2
    · rw [HO5.out.blk_other (by rw [size_put]; omega) (by omega), blk_put, if_pos rfl, hz2]; rfl
    · rw [HO5.out.free (by rw [size_put]; omega), free_put]; exact hzf2
    · exact (HP2.out.put _ _ (by omega) (HT2.out.2.not_log (by decide))).step (S' := ({ S with prev := S.last, last := sm, A := A' } : PS)) HO5.out HP2.out.rh HP2.out.ra rfl HP2.out.ls rfl rfl
    · exact ⟨(HT2.out.1.put _ _).out HO5.out, (HT2.out.2.put _ _).out HO5.out⟩
    · exact (HBS2.out.1.put_new _ _ (by omega)).out (by rw [size_put]; exact HBS2.out.2) HO5.out
  clear hb1 hf1 hg1 ha1 haf1 hz1 hzf1 hsz1 HE1 HP1 HT1 HBS1 hb2 hf2 hz2 hzf2 ha2 haf2 hsz2 HP2 HT2 hg2 HBS2 HO5
  obtain ⟨p2, hp2⟩ : ∃ p2, p2 = ({ p1 with prev := p1.last, last := sm } : Player) := ⟨_, rfl⟩
  rw [← hp2]
  clear hp2
  obtain ⟨c2, hc2⟩ : ∃ c2, c2 = ({ Answer.zero with sum := sm, mark := k, code := 0 } : Answer).code := ⟨_, rfl⟩
  have HCC : Hid (c2 = ({ Answer.zero with sum := sm, mark := k, code := 0 } : Answer).code) := hc2
  clear hc2
  rintro W3 ⟨hb3, ha3, haf3, hz3, hzf3, HP3, HT3, HBS3⟩
  go_wp2_with fail
  refine (hlen_any W3 bp 0 p2.enc p2.hand (by rw [hand_eq]; exact hb3) (by rw [Player.length_enc]; omega)).mono ?_
  rintro e W4 ⟨rfl, rfl⟩
  go_wp2_with fail
  refine (loglen_any _ bp p2 (by rw [blk_put, if_neg n1]; exact hb3)).mono ?_
  rintro e W4 ⟨rfl, rfl⟩
  go_wp2_with fail
  refine (collided_any _ bp p2 (by rw [blk_put, if_neg n1]; exact hb3)).mono ?_
  rintro e W4 ⟨rfl, rfl⟩
  go_wp2_with fail
  refine ret_cell (C := ({ ({ Answer.zero with sum := sm, mark := k, code := 0 } : Answer) with len := p2.hand.length, noted := (p2.log.entries.len : Nat), collided := p2.log.found } : Answer).enc) rfl rfl ?_ (by kernel_rfl) (by rw [Answer.length_enc]; kernel_rfl) rfl ?_
  · rw [blk_put, if_pos rfl]
    simp only [blk_put, n4, if_false, ha3]
    rfl
  · rw [← HNA.out, ← HSM.out]
    refine ⟨p2, rfl, (HP3.out.put _ _ (by omega) (HT3.out.2.not_log (by decide))).put _ _ (by omega) ((HT3.out.1.put _ _).not_log (by decide)), (HBS3.out.put_new _ _ (by omega)).put_new _ _ (by omega)⟩
set_option maxRecDepth 20000 in
set_option maxHeartbeats 2000000 in
theorem step_9b (w0 w : World) (bp : Nat) (p : Player) (g : GOp) (S : PS) (X : Nat → Prop) (hXw : ∀ k, X k → k < w.heap.size) (xs : List UInt8) (hP : PlayAt w0 bp p S X w) (hk : g.kind = 9) (hX : BytesAt w0.heap.size w0 g.data.a g.data.len g.data.cap xs) (hdl : g.data.len ≤ 65536) (hns : S.A.es.length ≤ 70000) (hd : okDom g.dom = false) :
    Calls Try.prog 15 #[.pointer (some ⟨bp, 0, none⟩), .agg g.enc.toArray] w fun e w' => ∃ p' : Player, e = .returned (.agg (stepAns 2 Z32 0 p').enc.toArray) ∧ PlayAt w0 bp p' S X w' ∧ Beside bp w w' := by
  have HP : Hid (PlayAt w0 bp p S X w) := hP
  have HXW : Hid (∀ k, X k → k < w.heap.size) := hXw
  clear hXw
  have hlt := hP.lt
  clear hP
  have HX : Hid (BytesAt w0.heap.size w0 g.data.a g.data.len g.data.cap xs) := hX
  clear hX
  have hsv : Sl.val g.data = .slice g.data.a g.data.len g.data.cap := rfl
  go_enter Try.func15, Try.ntmps15
  go_upto_region 4 with fail
  obtain ⟨bo, hbo⟩ : ∃ bo, bo = w.heap.size := ⟨_, rfl⟩
  rw [← hbo]
  refine wp_world (fun W => blk W bp = some p.enc ∧ free W bp = true ∧ blk W bo = some g.enc ∧ blk W (bo + 1) = some Answer.zero.enc ∧ free W (bo + 1) = true ∧ blk W (bo + 1 + 1) = some Answer.zero.enc ∧ free W (bo + 1 + 1) = true ∧ bo + 2 < W.heap.size ∧ Hid (w.Extends W) ∧ Hid (TyAt W (bo + 1) 50 ∧ TyAt W (bo + 1 + 1) 50)) ⟨?_, ?_, ?_, ?_, ?_, ?_, ?_, ?_, extends_alloc (extends_alloc (extends_alloc (ext_Ext (Ext.refl w)) _) _) _, ?_, ?_⟩ ?_
  · rw [blk_alloc, if_neg (by simp only [World.size_alloc]; omega), blk_alloc, if_neg (by simp only [World.size_alloc]; omega), blk_alloc, if_neg (by omega)]; exact HP.out.blk
  · rw [free_alloc, if_neg (by simp only [World.size_alloc]; omega), free_alloc, if_neg (by simp only [World.size_alloc]; omega), free_alloc, if_neg (by omega)]; exact HP.out.free
  · rw [hbo, blk_alloc, if_neg (by simp only [World.size_alloc]; omega), blk_alloc, if_neg (by simp only [World.size_alloc]; omega), blk_alloc, if_pos rfl]
  · rw [hbo, blk_alloc, if_neg (by simp only [World.size_alloc]; omega), blk_alloc, if_pos (by simp only [World.size_alloc])]
  · rw [hbo, free_alloc, if_neg (by simp only [World.size_alloc]; omega), free_alloc, if_pos (by simp only [World.size_alloc])]
  · rw [hbo, blk_alloc, if_pos (by simp only [World.size_alloc])]
  · rw [hbo, free_alloc, if_pos (by simp only [World.size_alloc])]
  · rw [hbo]; simp only [World.size_alloc]; omega
  · unfold TyAt
    rw [hbo, heap_alloc, if_neg (by simp only [World.size_alloc]; omega), heap_alloc, if_pos (by simp only [World.size_alloc])]
    exact ⟨_, _, rfl⟩
  · unfold TyAt
    rw [hbo, heap_alloc, if_pos (by simp only [World.size_alloc])]
    exact ⟨_, _, rfl⟩
  have hbpo : bp < bo := by omega
  have hwb : w.heap.size ≤ bo := by omega
  clear hbo
  have n1 : ¬ bp = bo + 1 + 1 := by omega
  have n2 : ¬ bo + 1 + 1 = bp := by omega
  have n3 : ¬ bo + 1 + 1 = bo := by omega
  have n4 : ¬ bo + 1 = bo + 1 + 1 := by omega
  have n5 : ¬ bo + 1 + 1 = bo + 1 := by omega
  have n6 : ¬ bo = bo + 1 + 1 := by omega
  rintro W ⟨hb1, hf1, hg1, ha1, haf1, hz1, hzf1, hsz1, HE1, HT1⟩
  have HP1 : Hid (PlayAt w0 bp p S X W) := HP.out.grow HE1.out
  have HBS1 : Hid (Beside bp w W ∧ w.heap.size ≤ W.heap.size) := ⟨.of_ext HE1.out, HE1.out.size⟩
  go_wp2_with fail
  refine wp_region_held_drew (S := fun W' => blk W' bo = some g.enc ∧ True) (by kernel_rfl) ⟨hg1, trivial⟩ (fun hHeld => ?_)
  refine wpAnyH_take (i := 0) (oi := ⟨_, _, _, _, _, _⟩) (v := ?_) rfl (by kernel_rfl) (by kernel_rfl) (by kernel_rfl) (fun _ _ _ h => h) (Or.inl ⟨by rfl, ?_⟩) (by assumption) ?_
  rotate_left 1
  · intro W' hSw
    obtain ⟨hS1, hS2⟩ := hSw
    go_simp
    try with_reducible rfl
  try simp only [Act.put, List.setIfInBounds_toArray, List.set_cons_zero, List.set_cons_succ]
  refine wpAnyH_take (i := 1) (oi := ⟨_, _, _, _, _, _⟩) (v := ?_) rfl (by kernel_rfl) (by kernel_rfl) (by kernel_rfl) (fun _ _ _ h => h) (Or.inl ⟨by rfl, ?_⟩) (by assumption) ?_
  rotate_left 1
  · intro W' hSw
    obtain ⟨hS1, hS2⟩ := hSw
    go_simp
    try with_reducible rfl
  try simp only [Act.put, List.setIfInBounds_toArray, List.set_cons_zero, List.set_cons_succ]
  refine wpAnyH_take (i := 2) (oi := ⟨_, _, _, _, _, _⟩) (v := ?_) rfl (by kernel_rfl) (by kernel_rfl) (by kernel_rfl) (fun _ _ _ h => h) (Or.inl ⟨by rfl, ?_⟩) (by assumption) ?_
  rotate_left 1
  · intro W' hSw
    obtain ⟨hS1, hS2⟩ := hSw
    go_simp
    try with_reducible rfl
  try simp only [Act.put, List.setIfInBounds_toArray, List.set_cons_zero, List.set_cons_succ]
  refine wpAnyH_take (i := 3) (oi := ⟨_, _, _, _, _, _⟩) (v := ?_) rfl (by kernel_rfl) (by kernel_rfl) (by kernel_rfl) (fun _ _ _ h => h) (Or.inl ⟨by rfl, ?_⟩) (by assumption) ?_
  rotate_left 1
  · intro W' hSw
    obtain ⟨hS1, hS2⟩ := hSw
    go_simp
    try with_reducible rfl
  try simp only [Act.put, List.setIfInBounds_toArray, List.set_cons_zero, List.set_cons_succ]
  refine wpAnyH_take (i := 4) (oi := ⟨_, _, _, _, _, _⟩) (v := ?_) rfl (by kernel_rfl) (by kernel_rfl) (by kernel_rfl) (fun _ _ _ h => h) (Or.inl ⟨by rfl, ?_⟩) (by assumption) ?_
  rotate_left 1
  · intro W' hSw
    obtain ⟨hS1, hS2⟩ := hSw
    go_simp
    try with_reducible rfl
  try simp only [Act.put, List.setIfInBounds_toArray, List.set_cons_zero, List.set_cons_succ]
  refine wpAnyH_take (i := 5) (oi := ⟨_, _, _, _, _, _⟩) (v := ?_) rfl (by kernel_rfl) (by kernel_rfl) (by kernel_rfl) (fun _ _ _ h => h) (Or.inl ⟨by rfl, ?_⟩) (by assumption) ?_
  rotate_left 1
  · intro W' hSw
    obtain ⟨hS1, hS2⟩ := hSw
    go_simp
    try with_reducible rfl
  try simp only [Act.put, List.setIfInBounds_toArray, List.set_cons_zero, List.set_cons_succ]
  refine wpAnyH_take (i := 6) (oi := ⟨_, _, _, _, _, _⟩) (v := ?_) rfl (by kernel_rfl) (by kernel_rfl) (by kernel_rfl) (fun _ _ _ h => h) (Or.inl ⟨by rfl, ?_⟩) (by assumption) ?_
  rotate_left 1
  · intro W' hSw
    obtain ⟨hS1, hS2⟩ := hSw
    go_simp
    try with_reducible rfl
  try simp only [Act.put, List.setIfInBounds_toArray, List.set_cons_zero, List.set_cons_succ]
  refine wpAnyH_ready (rs := [7]) (by kernel_rfl) (by simp) ?_
  refine AllReadyH.cons (o := ⟨_, _, _, _, _, _⟩) rfl (fun K hK => ?_) AllReadyH.nil
  go_simp
  refine (logTagged_bad W.drew bp 212 g.dom (.slice g.data.a g.data.len g.data.cap) hd).mono ?_
  rintro e W2 ⟨rfl, he2⟩
  have hext2 : W.Extends W2 := (extends_drew (ext_Ext (Ext.refl W))).trans (ext_Ext he2)
  have hb2 := (he2.blk (b := bp) (show _ < W.heap.size by omega)).trans hb1
  have hf2 := (he2.free (b := bp) (show _ < W.heap.size by omega)).trans hf1
  have hz2 := (he2.blk (b := bo + 1 + 1) (show _ < W.heap.size by omega)).trans hz1
  have hzf2 := (he2.free (b := bo + 1 + 1) (show _ < W.heap.size by omega)).trans hzf1
  have ha2 := (he2.blk (b := bo + 1) (show _ < W.heap.size by omega)).trans ha1
  have haf2 := (he2.free (b := bo + 1) (show _ < W.heap.size by omega)).trans haf1
  have hsz2 : W.heap.size ≤ W2.heap.size := he2.size
  have HP2 : Hid (PlayAt w0 bp p S X W2) := HP1.out.grow hext2
  have HT2 : Hid (TyAt W2 (bo + 1) 50 ∧ TyAt W2 (bo + 1 + 1) 50) := ⟨HT1.out.1.of_heap (hext2.block _ (by omega)), HT1.out.2.of_heap (hext2.block _ (by omega))⟩
  have HBS2 : Hid (Beside bp w W2 ∧ w.heap.size ≤ W2.heap.size) := ⟨HBS1.out.1.grow HBS1.out.2 hext2, Nat.le_trans HBS1.out.2 hext2.size⟩
  have hg2 := (hext2.blk (b := bo) (by omega)).trans hg1
  dsimp only
  refine hK.out _ _ ?_ (fun hHeld => ?_)
  · exact ⟨hg2, trivial⟩
  clear hK K
  clear he2 hext2
  try simp only [Act.put, List.setIfInBounds_toArray, List.set_cons_zero, List.set_cons_succ]
  refine wpAnyH_take (i := 8) (oi := ⟨_, _, _, _, _, _⟩) (v := ?_) rfl (by kernel_rfl) (by kernel_rfl) (by kernel_rfl) (fun _ _ _ h => h) (Or.inl ⟨by rfl, ?_⟩) (by assumption) ?_
  rotate_left 1
  · intro W' hSw
    obtain ⟨hS1, hS2⟩ := hSw
    go_simp
    try with_reducible rfl
  try simp only [Act.put, List.setIfInBounds_toArray, List.set_cons_zero, List.set_cons_succ]
  refine wpAnyH_take (i := 9) (oi := ⟨_, _, _, _, _, _⟩) (v := ?_) rfl (by kernel_rfl) (by kernel_rfl) (by kernel_rfl) (fun _ _ _ h => h) (Or.inl ⟨by rfl, ?_⟩) (by assumption) ?_
  rotate_left 1
  · intro W' hSw
    obtain ⟨hS1, hS2⟩ := hSw
    go_simp
    try with_reducible rfl
  try simp only [Act.put, List.setIfInBounds_toArray, List.set_cons_zero, List.set_cons_succ]
  refine wpAnyH_take (i := 10) (oi := ⟨_, _, _, _, _, _⟩) (v := ?_) rfl (by kernel_rfl) (by kernel_rfl) (by kernel_rfl) (fun _ _ _ h => h) (Or.inl ⟨by rfl, ?_⟩) (by assumption) ?_
  rotate_left 1
  · intro W' hSw
    obtain ⟨hS1, hS2⟩ := hSw
    go_simp
    try with_reducible rfl
  try simp only [Act.put, List.setIfInBounds_toArray, List.set_cons_zero, List.set_cons_succ]
  refine wpAnyH_take (i := 11) (oi := ⟨_, _, _, _, _, _⟩) (v := ?_) rfl (by kernel_rfl) (by kernel_rfl) (by kernel_rfl) (fun _ _ _ h => h) (Or.inl ⟨by rfl, ?_⟩) (by assumption) ?_
  rotate_left 1
  · intro W' hSw
    obtain ⟨hS1, hS2⟩ := hSw
    go_simp
    try with_reducible rfl
  try simp only [Act.put, List.setIfInBounds_toArray, List.set_cons_zero, List.set_cons_succ]
  refine wpAnyH_take (i := 12) (oi := ⟨_, _, _, _, _, _⟩) (v := ?_) rfl (by kernel_rfl) (by kernel_rfl) (by kernel_rfl) (fun _ _ _ h => h) (Or.inl ⟨by rfl, ?_⟩) (by assumption) ?_
  rotate_left 1
  · intro W' hSw
    obtain ⟨hS1, hS2⟩ := hSw
    go_simp
    try with_reducible rfl
  try simp only [Act.put, List.setIfInBounds_toArray, List.set_cons_zero, List.set_cons_succ]
  refine wpAnyH_ready (rs := [13]) (by kernel_rfl) (by simp) ?_
  refine AllReadyH.cons (o := ⟨_, _, _, _, _, _⟩) rfl (fun K hK => ?_) AllReadyH.nil
  go_simp
  refine hK.out _ _ ?_ (fun hHeld => ?_)
  · exact ⟨by rw [blk_put, if_neg n6]; exact hg2, trivial⟩
  clear hK K
  try simp only [Act.put, List.setIfInBounds_toArray, List.set_cons_zero, List.set_cons_succ]
  refine wpAnyH_take (i := 14) (oi := ⟨_, _, _, _, _, _⟩) (v := ?_) rfl (by kernel_rfl) (by kernel_rfl) (by kernel_rfl) (fun _ _ _ h => h) (Or.inl ⟨by rfl, ?_⟩) (by assumption) ?_
  rotate_left 1
  · intro W' hSw
    obtain ⟨hS1, hS2⟩ := hSw
    go_simp
    try with_reducible rfl
  try simp only [Act.put, List.setIfInBounds_toArray, List.set_cons_zero, List.set_cons_succ]
  refine wpAnyH_ready (rs := [15]) (by kernel_rfl) (by simp) ?_
  refine AllReadyH.cons (o := ⟨_, _, _, _, _, _⟩) rfl (fun K hK => ?_) AllReadyH.nil
  go_simp
  refine hK.out _ _ ?_ (fun hHeld => ?_)
  · exact ⟨by rw [blk_put, if_neg n6]; exact hg2, trivial⟩
  clear hK K
  try simp only [Act.put, List.setIfInBounds_toArray, List.set_cons_zero, List.set_cons_succ]
  refine wpAnyH_take (i := 16) (oi := ⟨_, _, _, _, _, _⟩) (v := ?_) rfl (by kernel_rfl) (by kernel_rfl) (by kernel_rfl) (fun _ _ _ h => h) (Or.inl ⟨by rfl, ?_⟩) (by assumption) ?_
  rotate_left 1
  · intro W' hSw
    obtain ⟨hS1, hS2⟩ := hSw
    go_simp
    try with_reducible rfl
  try simp only [Act.put, List.setIfInBounds_toArray, List.set_cons_zero, List.set_cons_succ]
  refine wpAnyH_ready (rs := [17]) (by kernel_rfl) (by simp) ?_
  refine AllReadyH.cons (o := ⟨_, _, _, _, _, _⟩) rfl (fun K hK => ?_) AllReadyH.nil
  go_simp
  refine hK.out _ _ ?_ (fun hHeld => ?_)
  · exact ⟨by rw [blk_put, if_neg n6]; exact hg2, trivial⟩
  clear hK K
  try simp only [Act.put, List.setIfInBounds_toArray, List.set_cons_zero, List.set_cons_succ]
  refine wpAnyH_done (by kernel_rfl) ?_ _
  go_upto_region 38 with fail
  refine wp_world (fun W3 => blk W3 bp = some (p : Player).enc ∧ blk W3 (bo + 1) = some Answer.zero.enc ∧ free W3 (bo + 1) = true ∧ blk W3 (bo + 1 + 1) = some ({ Answer.zero with sum := Z32, mark := 0, code := 2 } : Answer).enc ∧ free W3 (bo + 1 + 1) = true ∧ Hid (PlayAt w0 bp (p) S X W3) ∧ Hid (TyAt W3 (bo + 1) 50 ∧ TyAt W3 (bo + 1 + 1) 50) ∧ Hid (Beside bp w W3)) ?_ ?_
  · refine ⟨?_, ?_, ?_, ?_, ?_, ?_, ?_, ?_⟩
    · rw [blk_put, if_neg n1]; exact hb2
    · rw [blk_put, if_neg n4]; exact ha2
    · rw [free_put]; exact haf2
    · rw [blk_put, if_pos rfl, hz2]; rfl
    · rw [free_put]; exact hzf2
    · exact HP2.out.put _ _ (by omega) (HT2.out.2.not_log (by decide))
    · exact ⟨HT2.out.1.put _ _, HT2.out.2.put _ _⟩
    · exact HBS2.out.1.put_new _ _ (by omega)
  clear hb1 hf1 hg1 ha1 haf1 hz1 hzf1 hsz1 HE1 HP1 HT1 HBS1 hb2 hf2 hz2 hzf2 ha2 haf2 hsz2 HP2 HT2 hg2 HBS2
  obtain ⟨p2, hp2⟩ : ∃ p2, p2 = (p : Player) := ⟨_, rfl⟩
  rw [← hp2]
  clear hp2
  obtain ⟨c2, hc2⟩ : ∃ c2, c2 = ({ Answer.zero with sum := Z32, mark := 0, code := 2 } : Answer).code := ⟨_, rfl⟩
  have HCC : Hid (c2 = ({ Answer.zero with sum := Z32, mark := 0, code := 2 } : Answer).code) := hc2
  clear hc2
  rintro W3 ⟨hb3, ha3, haf3, hz3, hzf3, HP3, HT3, HBS3⟩
  go_wp2_with fail
  refine (hlen_any W3 bp 0 p2.enc p2.hand (by rw [hand_eq]; exact hb3) (by rw [Player.length_enc]; omega)).mono ?_
  rintro e W4 ⟨rfl, rfl⟩
  go_wp2_with fail
  refine (loglen_any _ bp p2 (by rw [blk_put, if_neg n1]; exact hb3)).mono ?_
  rintro e W4 ⟨rfl, rfl⟩
  go_wp2_with fail
  refine (collided_any _ bp p2 (by rw [blk_put, if_neg n1]; exact hb3)).mono ?_
  rintro e W4 ⟨rfl, rfl⟩
  go_wp2_with fail
  refine ret_cell (C := ({ ({ Answer.zero with sum := Z32, mark := 0, code := 2 } : Answer) with len := p2.hand.length, noted := (p2.log.entries.len : Nat), collided := p2.log.found } : Answer).enc) rfl rfl ?_ (by kernel_rfl) (by rw [Answer.length_enc]; kernel_rfl) rfl ?_
  · rw [blk_put, if_pos rfl]
    simp only [blk_put, n4, if_false, ha3]
    rfl
  · refine ⟨p2, rfl, (HP3.out.put _ _ (by omega) (HT3.out.2.not_log (by decide))).put _ _ (by omega) ((HT3.out.1.put _ _).not_log (by decide)), (HBS3.out.put_new _ _ (by omega)).put_new _ _ (by omega)⟩
theorem noteA_len (A : ALog) (x : Ent) : (noteA A x).1.es.length ≤ A.es.length + 1 := by
  unfold noteA
  split
  · exact Nat.le_succ _
  · split <;> simp
/-- The player's step, plainly: the new state, the code, the digest, the mark. -/
def stepF (S : PS) (g : GOp) (xs : List UInt8) : PS × Int × Vector UInt8 32 × Int :=
  if g.kind = 1 then ({ S with mh := S.mh ++ xs }, 0, Z32, 0)
  else if g.kind = 2 then ({ S with mh := S.mh ++ List.replicate (fillN g.n) g.b }, 0, Z32, 0)
  else if g.kind = 3 then ({ S with mh := S.mh ++ [g.b] }, 0, Z32, 0)
  else if g.kind = 4 then ({ S with mh := S.mh ++ be4 (UInt32.ofNat g.v.toNat) }, 0, Z32, 0)
  else if g.kind = 5 then ({ S with mh := S.mh ++ be8 g.v.toNat }, 0, Z32, 0)
  else if g.kind = 6 then ({ S with prev := S.last, last := sha S.mh }, 0, sha S.mh, 0)
  else if g.kind = 7 then ({ S with mh := [] }, 0, Z32, 0)
  else if g.kind = 8 then ({ S with mh := S.ma, ma := S.mh }, 0, Z32, 0)
  else if g.kind = 9 then
    if okDom g.dom = true then ({ S with prev := S.last, last := sha (g.dom :: xs), A := (noteA S.A (g.dom :: xs, sha (g.dom :: xs))).1 }, 0, sha (g.dom :: xs), (noteA S.A (g.dom :: xs, sha (g.dom :: xs))).2)
    else (S, 2, Z32, 0)
  else if g.kind = 10 then ({ S with prev := S.last, last := nodeD S.prev S.last, A := (noteA S.A (3 :: (S.prev.toList ++ S.last.toList), nodeD S.prev S.last)).1 }, 0, nodeD S.prev S.last, (noteA S.A (3 :: (S.prev.toList ++ S.last.toList), nodeD S.prev S.last)).2)
  else if g.kind = 11 then
    if 0 ≤ g.n ∧ g.n ≤ 10 then ({ S with prev := S.last, last := emptyR g.n.toNat }, 0, emptyR g.n.toNat, 0) else (S, 4, Z32, 0)
  else if g.kind = 12 then ({ S with A := (noteA S.A (xs, g.sum)).1 }, 0, Z32, (noteA S.A (xs, g.sum)).2)
  else if g.kind = 13 then
    match parseH xs with
    | some d => ({ S with prev := S.last, last := d }, 0, d, 0)
    | none => (S, 3, Z32, 0)
  else (S, 5, Z32, 0)
theorem stepF_1 {S : PS} {g : GOp} {xs : List UInt8} (h : g.kind = 1) : stepF S g xs = ({ S with mh := S.mh ++ xs }, 0, Z32, 0) := by unfold stepF; rw [h]; rfl
theorem stepF_2 {S : PS} {g : GOp} {xs : List UInt8} (h : g.kind = 2) : stepF S g xs = ({ S with mh := S.mh ++ List.replicate (fillN g.n) g.b }, 0, Z32, 0) := by unfold stepF; rw [h]; rfl
theorem stepF_3 {S : PS} {g : GOp} {xs : List UInt8} (h : g.kind = 3) : stepF S g xs = ({ S with mh := S.mh ++ [g.b] }, 0, Z32, 0) := by unfold stepF; rw [h]; rfl
theorem stepF_4 {S : PS} {g : GOp} {xs : List UInt8} (h : g.kind = 4) : stepF S g xs = ({ S with mh := S.mh ++ be4 (UInt32.ofNat g.v.toNat) }, 0, Z32, 0) := by unfold stepF; rw [h]; rfl
theorem stepF_5 {S : PS} {g : GOp} {xs : List UInt8} (h : g.kind = 5) : stepF S g xs = ({ S with mh := S.mh ++ be8 g.v.toNat }, 0, Z32, 0) := by unfold stepF; rw [h]; rfl
theorem stepF_6 {S : PS} {g : GOp} {xs : List UInt8} (h : g.kind = 6) : stepF S g xs = ({ S with prev := S.last, last := sha S.mh }, 0, sha S.mh, 0) := by unfold stepF; rw [h]; rfl
theorem stepF_7 {S : PS} {g : GOp} {xs : List UInt8} (h : g.kind = 7) : stepF S g xs = ({ S with mh := [] }, 0, Z32, 0) := by unfold stepF; rw [h]; rfl
theorem stepF_8 {S : PS} {g : GOp} {xs : List UInt8} (h : g.kind = 8) : stepF S g xs = ({ S with mh := S.ma, ma := S.mh }, 0, Z32, 0) := by unfold stepF; rw [h]; rfl
theorem stepF_9 {S : PS} {g : GOp} {xs : List UInt8} (h : g.kind = 9) (hd : okDom g.dom = true) : stepF S g xs = ({ S with prev := S.last, last := sha (g.dom :: xs), A := (noteA S.A (g.dom :: xs, sha (g.dom :: xs))).1 }, 0, sha (g.dom :: xs), (noteA S.A (g.dom :: xs, sha (g.dom :: xs))).2) := by unfold stepF; rw [h, hd]; rfl
theorem stepF_9b {S : PS} {g : GOp} {xs : List UInt8} (h : g.kind = 9) (hd : okDom g.dom = false) : stepF S g xs = (S, 2, Z32, 0) := by unfold stepF; rw [h, hd]; rfl
theorem stepF_10 {S : PS} {g : GOp} {xs : List UInt8} (h : g.kind = 10) : stepF S g xs = ({ S with prev := S.last, last := nodeD S.prev S.last, A := (noteA S.A (3 :: (S.prev.toList ++ S.last.toList), nodeD S.prev S.last)).1 }, 0, nodeD S.prev S.last, (noteA S.A (3 :: (S.prev.toList ++ S.last.toList), nodeD S.prev S.last)).2) := by unfold stepF; rw [h]; rfl
theorem stepF_11 {S : PS} {g : GOp} {xs : List UInt8} (h : g.kind = 11) (hn : 0 ≤ g.n ∧ g.n ≤ 10) : stepF S g xs = ({ S with prev := S.last, last := emptyR g.n.toNat }, 0, emptyR g.n.toNat, 0) := by unfold stepF; rw [h, if_pos hn]; rfl
theorem stepF_11b {S : PS} {g : GOp} {xs : List UInt8} (h : g.kind = 11) (hn : ¬ (0 ≤ g.n ∧ g.n ≤ 10)) : stepF S g xs = (S, 4, Z32, 0) := by unfold stepF; rw [h, if_neg hn]; rfl
theorem stepF_12 {S : PS} {g : GOp} {xs : List UInt8} (h : g.kind = 12) : stepF S g xs = ({ S with A := (noteA S.A (xs, g.sum)).1 }, 0, Z32, (noteA S.A (xs, g.sum)).2) := by unfold stepF; rw [h]; rfl
theorem stepF_13 {S : PS} {g : GOp} {xs : List UInt8} {d : Vector UInt8 32} (h : g.kind = 13) (hd : parseH xs = some d) : stepF S g xs = ({ S with prev := S.last, last := d }, 0, d, 0) := by unfold stepF; rw [h, hd]; rfl
theorem stepF_13b {S : PS} {g : GOp} {xs : List UInt8} (h : g.kind = 13) (hd : parseH xs = none) : stepF S g xs = (S, 3, Z32, 0) := by unfold stepF; rw [h, hd]; rfl
theorem stepF_0 {S : PS} {g : GOp} {xs : List UInt8} (h1 : ¬ g.kind = 1) (h2 : ¬ g.kind = 2) (h3 : ¬ g.kind = 3) (h4 : ¬ g.kind = 4) (h5 : ¬ g.kind = 5) (h6 : ¬ g.kind = 6) (h7 : ¬ g.kind = 7) (h8 : ¬ g.kind = 8) (h9 : ¬ g.kind = 9) (h10 : ¬ g.kind = 10) (h11 : ¬ g.kind = 11) (h12 : ¬ g.kind = 12) (h13 : ¬ g.kind = 13) : stepF S g xs = (S, 5, Z32, 0) := by unfold stepF; rw [if_neg h1, if_neg h2, if_neg h3, if_neg h4, if_neg h5, if_neg h6, if_neg h7, if_neg h8, if_neg h9, if_neg h10, if_neg h11, if_neg h12, if_neg h13]
theorem stepF_small (S : PS) (g : GOp) (xs : List UInt8) (hx : xs.length ≤ 65536) (M : Nat) (h1 : S.mh.length ≤ M) (h2 : S.ma.length ≤ M) : (stepF S g xs).1.mh.length ≤ M + 65536 ∧ (stepF S g xs).1.ma.length ≤ M + 65536 ∧ (stepF S g xs).1.A.es.length ≤ S.A.es.length + 1 := by
  have hf := fillN_le g.n
  by_cases k1 : g.kind = 1
  · rw [stepF_1 k1]; exact ⟨by first | (simp; done) | (simp [length_be4, length_be8]; omega), by first | (simp; done) | (simp; omega), by simp⟩
  by_cases k2 : g.kind = 2
  · rw [stepF_2 k2]; exact ⟨by first | (simp; done) | (simp [length_be4, length_be8]; omega), by first | (simp; done) | (simp; omega), by simp⟩
  by_cases k3 : g.kind = 3
  · rw [stepF_3 k3]; exact ⟨by first | (simp; done) | (simp [length_be4, length_be8]; omega), by first | (simp; done) | (simp; omega), by simp⟩
  by_cases k4 : g.kind = 4
  · rw [stepF_4 k4]; exact ⟨by first | (simp; done) | (simp [length_be4, length_be8]; omega), by first | (simp; done) | (simp; omega), by simp⟩
  by_cases k5 : g.kind = 5
  · rw [stepF_5 k5]; exact ⟨by first | (simp; done) | (simp [length_be4, length_be8]; omega), by first | (simp; done) | (simp; omega), by simp⟩
  by_cases k6 : g.kind = 6
  · rw [stepF_6 k6]; exact ⟨by first | (simp; done) | (simp [length_be4, length_be8]; omega), by first | (simp; done) | (simp; omega), by simp⟩
  by_cases k7 : g.kind = 7
  · rw [stepF_7 k7]; exact ⟨by first | (simp; done) | (simp [length_be4, length_be8]; omega), by first | (simp; done) | (simp; omega), by simp⟩
  by_cases k8 : g.kind = 8
  · rw [stepF_8 k8]; exact ⟨by first | (simp; done) | (simp [length_be4, length_be8]; omega), by first | (simp; done) | (simp; omega), by simp⟩
  by_cases k9 : g.kind = 9
  · cases hd : okDom g.dom with
    | true => rw [stepF_9 k9 hd]; exact ⟨by show S.mh.length ≤ _; omega, by show S.ma.length ≤ _; omega, noteA_len _ _⟩
    | false => rw [stepF_9b k9 hd]; exact ⟨by show S.mh.length ≤ _; omega, by show S.ma.length ≤ _; omega, Nat.le_succ _⟩
  by_cases k10 : g.kind = 10
  · rw [stepF_10 k10]; exact ⟨by show S.mh.length ≤ _; omega, by show S.ma.length ≤ _; omega, noteA_len _ _⟩
  by_cases k11 : g.kind = 11
  · by_cases hn : 0 ≤ g.n ∧ g.n ≤ 10
    · rw [stepF_11 k11 hn]; exact ⟨by show S.mh.length ≤ _; omega, by show S.ma.length ≤ _; omega, Nat.le_succ _⟩
    · rw [stepF_11b k11 hn]; exact ⟨by show S.mh.length ≤ _; omega, by show S.ma.length ≤ _; omega, Nat.le_succ _⟩
  by_cases k12 : g.kind = 12
  · rw [stepF_12 k12]; exact ⟨by show S.mh.length ≤ _; omega, by show S.ma.length ≤ _; omega, noteA_len _ _⟩
  by_cases k13 : g.kind = 13
  · cases hd : parseH xs with
    | some d => rw [stepF_13 k13 hd]; exact ⟨by show S.mh.length ≤ _; omega, by show S.ma.length ≤ _; omega, Nat.le_succ _⟩
    | none => rw [stepF_13b k13 hd]; exact ⟨by show S.mh.length ≤ _; omega, by show S.ma.length ≤ _; omega, Nat.le_succ _⟩
  rw [stepF_0 k1 k2 k3 k4 k5 k6 k7 k8 k9 k10 k11 k12 k13]; exact ⟨by show S.mh.length ≤ _; omega, by show S.ma.length ≤ _; omega, Nat.le_succ _⟩
def StepPost (w0 w : World) (bp : Nat) (S : PS) (X : Nat → Prop) (g : GOp) (xs : List UInt8) (e : Ending) (w' : World) : Prop :=
  ∃ p' : Player, e = .returned (.agg (stepAns (stepF S g xs).2.1 (stepF S g xs).2.2.1 (stepF S g xs).2.2.2 p').enc.toArray) ∧ PlayAt w0 bp p' (stepF S g xs).1 X w' ∧ Beside bp w w'
theorem StepPost.of {w0 w w' : World} {bp : Nat} {S S' : PS} {X : Nat → Prop} {g : GOp} {xs : List UInt8} {e : Ending} {c m : Int} {d : Vector UInt8 32} (hF : stepF S g xs = (S', c, d, m)) (h : ∃ p' : Player, e = .returned (.agg (stepAns c d m p').enc.toArray) ∧ PlayAt w0 bp p' S' X w' ∧ Beside bp w w') : StepPost w0 w bp S X g xs e w' := by
  unfold StepPost
  rw [hF]
  exact h
theorem StepPost.of_out {w0 w w' : World} {bp : Nat} {S S' : PS} {X : Nat → Prop} {p p' : Player} {g : GOp} {xs : List UInt8} {c m : Int} {d : Vector UInt8 32} (hF : stepF S g xs = (S', c, d, m)) (hP : PlayAt w0 bp p S X w) (ho : StepOut w w' bp p p' S'.mh S'.ma) (h3 : p'.prev = S'.prev) (h4 : p'.last = S'.last) (hA : S'.A = S.A) : StepPost w0 w bp S X g xs (.returned (.agg (stepAns c d m p').enc.toArray)) w' :=
  .of hF ⟨p', rfl, hP.step ho.1 ho.2.1 ho.2.2.1 ho.2.2.2 h3 h4 hA, (Beside.of_ext (ext_Ext (Ext.refl w))).out (Nat.le_refl _) ho.1⟩
theorem step_any (w0 w : World) (bp : Nat) (p : Player) (g : GOp) (S : PS) (X : Nat → Prop) (hXw : ∀ k, X k → k < w.heap.size) (xs : List UInt8) (hP : PlayAt w0 bp p S X w) (hX : BytesAt w0.heap.size w0 g.data.a g.data.len g.data.cap xs) (hdl : g.data.len ≤ 65536) (hns : S.A.es.length ≤ 70000) (hmh : S.mh.length ≤ 2305843000000000000) :
    Calls Try.prog 15 #[.pointer (some ⟨bp, 0, none⟩), .agg g.enc.toArray] w fun e w' => StepPost w0 w bp S X g xs e w' := by
  have hXb : BytesAt bp w g.data.a g.data.len g.data.cap xs := hX.at_new (fun b hb => hP.ext.blk hb) hP.base
  have hxl := hX.1
  by_cases h1 : g.kind = 1
  · refine (step_1 w bp p g S.mh S.ma xs hP.blk hP.free hP.rh hP.ra h1 hXb (by omega)).mono ?_
    rintro e w' ⟨p', rfl, ho, q1, q2⟩
    exact .of_out (S' := { S with mh := S.mh ++ xs }) (stepF_1 h1) hP ho (q1.trans hP.pv) (q2.trans hP.ls) rfl
  by_cases h2 : g.kind = 2
  · refine (step_2 w bp p g S.mh S.ma hP.blk hP.free hP.rh hP.ra h2 (by omega)).mono ?_
    rintro e w' ⟨p', rfl, ho, q1, q2⟩
    exact .of_out (S' := { S with mh := S.mh ++ List.replicate (fillN g.n) g.b }) (stepF_2 h2) hP ho (q1.trans hP.pv) (q2.trans hP.ls) rfl
  by_cases h3 : g.kind = 3
  · refine (step_3 w bp p g S.mh S.ma hP.blk hP.free hP.rh hP.ra h3 (by omega)).mono ?_
    rintro e w' ⟨p', rfl, ho, q1, q2⟩
    exact .of_out (S' := { S with mh := S.mh ++ [g.b] }) (stepF_3 h3) hP ho (q1.trans hP.pv) (q2.trans hP.ls) rfl
  by_cases h4 : g.kind = 4
  · refine (step_4 w bp p g S.mh S.ma hP.blk hP.free hP.rh hP.ra h4 (by omega)).mono ?_
    rintro e w' ⟨p', rfl, ho, q1, q2⟩
    exact .of_out (S' := { S with mh := S.mh ++ be4 (UInt32.ofNat g.v.toNat) }) (stepF_4 h4) hP ho (q1.trans hP.pv) (q2.trans hP.ls) rfl
  by_cases h5 : g.kind = 5
  · refine (step_5 w bp p g S.mh S.ma hP.blk hP.free hP.rh hP.ra h5 (by omega)).mono ?_
    rintro e w' ⟨p', rfl, ho, q1, q2⟩
    exact .of_out (S' := { S with mh := S.mh ++ be8 g.v.toNat }) (stepF_5 h5) hP ho (q1.trans hP.pv) (q2.trans hP.ls) rfl
  by_cases h6 : g.kind = 6
  · refine (step_6 w bp p g S.mh S.ma hP.blk hP.free hP.rh hP.ra h6).mono ?_
    rintro e w' ⟨p', rfl, ho, q1, q2⟩
    exact .of_out (S' := { S with prev := S.last, last := sha S.mh }) (stepF_6 h6) hP ho (q1.trans hP.ls) q2 rfl
  by_cases h7 : g.kind = 7
  · refine (step_7 w bp p g S.mh S.ma hP.blk hP.free hP.rh hP.ra h7).mono ?_
    rintro e w' ⟨p', rfl, ho, q1, q2⟩
    exact .of_out (S' := { S with mh := [] }) (stepF_7 h7) hP ho (q1.trans hP.pv) (q2.trans hP.ls) rfl
  by_cases h8 : g.kind = 8
  · refine (step_8 w bp p g S.mh S.ma hP.blk hP.free hP.rh hP.ra h8).mono ?_
    rintro e w' ⟨p', rfl, ho, q1, q2⟩
    exact .of_out (S' := { S with mh := S.ma, ma := S.mh }) (stepF_8 h8) hP ho (q1.trans hP.pv) (q2.trans hP.ls) rfl
  by_cases h9 : g.kind = 9
  · cases hd : okDom g.dom with
    | true => exact (step_9 w0 w bp p g S X hXw xs hP h9 hX hdl hns hd).mono fun e w' h => .of (stepF_9 h9 hd) h
    | false => exact (step_9b w0 w bp p g S X hXw xs hP h9 hX hdl hns hd).mono fun e w' h => .of (stepF_9b h9 hd) h
  by_cases h10 : g.kind = 10
  · exact (step_10 w0 w bp p g S X hXw hP h10 hns).mono fun e w' h => .of (by rw [stepF_10 h10, hP.pv, hP.ls]) h
  by_cases h11 : g.kind = 11
  · by_cases hn : 0 ≤ g.n ∧ g.n ≤ 10
    · exact (step_11 w0 w bp p g S X hXw g.n.toNat hP h11 (by omega) (by omega)).mono fun e w' h => .of (stepF_11 h11 hn) h
    · exact (step_11b w0 w bp p g S X hXw hP h11 (by omega)).mono fun e w' h => .of (stepF_11b h11 hn) h
  by_cases h12 : g.kind = 12
  · exact (step_12 w0 w bp p g S X hXw xs hP h12 hX hdl hns).mono fun e w' h => .of (stepF_12 h12) h
  by_cases h13 : g.kind = 13
  · cases hd : parseH xs with
    | some d => exact (step_13 w0 w bp p g S X hXw xs d hP h13 hX hd).mono fun e w' h => .of (stepF_13 h13 hd) h
    | none => exact (step_13b w0 w bp p g S X hXw xs hP h13 hX hd).mono fun e w' h => .of (stepF_13b h13 hd) h
  exact (step_0 w0 w bp p g S X hXw hP h1 h2 h3 h4 h5 h6 h7 h8 h9 h10 h11 h12 h13).mono fun e w' h => .of (stepF_0 h1 h2 h3 h4 h5 h6 h7 h8 h9 h10 h11 h12 h13) h
end Go.Proofs.Qxb6500785a
