import Derived.Test.Qxb6500787aRp
import Derived.StillTailTactics
import Derived.Deep.QuietTactic
import Derived.BigQuiet
import Derived.Deep.RegionHeld
import Derived.Deep.CutRange
import Derived.Laws.ResultCell
import Derived.Laws.Rows
import Derived.DeepKeys
import Derived.DataBytes
import Derived.Laws.StructEq
import Derived.Laws.AppendOwn
import Derived.Laws.MakeOwn
set_option linter.unusedSimpArgs false
set_option linter.unusedVariables false
namespace Go.Proofs.Qxb6500787a
open Go.RowKit Go.Blk
attribute [local go_sem ↓] execOp_load execOp_store execOp_alloc
attribute [local go_sem] Try.ld26 Try.st26 Try.ld27 Try.st27 Try.ld28 Try.st28 Try.ld3 Try.st3 Try.ld29 Try.st29 Try.ld4 Try.st4 Try.ld50 Try.st50 Try.ld68 Try.st68 Try.ld9 Try.st9 Try.ld2 Try.st2 Try.ld5 Try.st5 Try.ld12 Try.st12 Try.ld21 Try.st21 Try.ld22 Try.st22 Try.ld24 Try.st24 Try.ld32 Try.st32 Try.ld40 Try.st40 Try.ld44 Try.st44 Try.ld49 Try.st49 Try.ld58 Try.st58 Try.ld63 Try.st63 Try.ld97 Try.st97 Try.ld101 Try.st101 Try.ld116 Try.st116 Try.ld121 Try.st121 Try.ld135 Try.st135 Try.ld136 Try.st136 Try.ld138 Try.st138 Try.ld139 Try.st139 Try.ld142 Try.st142 Try.ld143 Try.st143 Try.ld146 Try.st146 Try.ld148 Try.st148 Try.ld154 Try.st154 Try.ld159 Try.st159 Try.ld173 Try.st173 Try.ld183 Try.st183 Try.ld184 Try.st184 Try.ld187 Try.st187 Try.ld192 Try.st192 Try.ld195 Try.st195 Try.ld217 Try.st217 Try.ld222 Try.st222 Try.ld241 Try.st241 Try.ld248 Try.st248 Try.ld268 Try.st268 Try.ld272 Try.st272 Try.ld129 Try.st129 Try.ld31 Try.st31 Try.ld52 Try.st52 Try.ld70 Try.st70 Try.ld74 Try.st74 Try.ld93 Try.st93 Try.al129 Try.al31 Try.al52 Try.al70 Try.al74 Try.al93
attribute [local go_sem] Request.length_enc Request.ok_enc Request.all_get Request.all_set Request.kind_get Request.kind_set Request.blob_get Request.blob_set Request.items_get Request.items_set Request.pred_get Request.pred_set Request.slots_get Request.slots_set Item.length_enc Item.ok_enc Item.all_get Item.all_set Item.del_get Item.del_set Item.pred_get Item.pred_set Item.args_get Item.args_set GOp.length_enc GOp.ok_enc GOp.all_get GOp.all_set GOp.kind_get GOp.kind_set GOp.raw_get GOp.raw_set Reader.length_enc Reader.ok_enc Reader.all_get Reader.all_set Reader.buf_get Reader.buf_set Reader.at__get Reader.at__set Slot.length_enc Slot.ok_enc Slot.all_get Slot.all_set Slot.bound_get Slot.bound_set Slot.name_get Slot.name_set
attribute [local go_sem] size_put size_ext blk_put free_put blk_alloc free_alloc blk_drew free_drew blk_ext free_ext lookOr_some putOr_some segAt_some cellAt_some storeIn_some put_put put_alloc_new length_arr ok_arr_u8 ok_arr_u32 ok_arr_u64 ok_arr_i64 ok_arr_sl cellsV_agg cellsV_int cellsV_bool cellsV_string cellsV_pointer cellsV_slice cellsV_sl ok_int ok_bool ok_string ok_pointer ok_slice ok_sl toList_arr seg_arr set_arr nth_splice nth_splice0 seg_splice seg_splice0 splice_splice splice_splice0 length_splice_if
attribute [local go_sem ↓] execOp_box
attribute [local go_sem] box_run nth_arr_u8 put_arr_u8 blk_drewN free_drewN put_drewN blk_raw free_raw
set_option maxRecDepth 100000 in
theorem frame80 (f : Nat → Value) : frameN 80 f = #[f 0, f 1, f 2, f 3, f 4, f 5, f 6, f 7, f 8, f 9, f 10, f 11, f 12, f 13, f 14, f 15, f 16, f 17, f 18, f 19, f 20, f 21, f 22, f 23, f 24, f 25, f 26, f 27, f 28, f 29, f 30, f 31, f 32, f 33, f 34, f 35, f 36, f 37, f 38, f 39, f 40, f 41, f 42, f 43, f 44, f 45, f 46, f 47, f 48, f 49, f 50, f 51, f 52, f 53, f 54, f 55, f 56, f 57, f 58, f 59, f 60, f 61, f 62, f 63, f 64, f 65, f 66, f 67, f 68, f 69, f 70, f 71, f 72, f 73, f 74, f 75, f 76, f 77, f 78, f 79] := by kernel_rfl
theorem eqFields_all {P : Program} (w : World) (d : Nat) (xs ys : Array Value) (r : Nat → Bool) : ∀ fs : List Field, (∀ f ∈ fs, f.name ≠ "_" ∧ ∃ a b, (part f.type xs f.offset).run P w = .ok a w ∧ (part f.type ys f.offset).run P w = .ok b w ∧ (Op.equalIn d f.type a b).run P w = .ok (r f.offset) w) → (Op.eqFields d xs ys fs).run P w = .ok ((fs.map (fun f => f.offset)).all r) w
  | [], _ => rfl
  | f :: fs, h => by
    obtain ⟨hn, a, b, h1, h2, h3⟩ := h f (List.mem_cons_self ..)
    have ih := eqFields_all w d xs ys r fs fun f' hf => h f' (List.mem_cons_of_mem _ hf)
    unfold Op.eqFields
    rw [if_pos hn]
    simp only [Sem.run_bind, h1, h2, h3, Result.andThen_ok]
    rw [List.map_cons, List.all_cons]
    cases hr : r f.offset with
    | true => simpa using ih
    | false => simp
theorem fields93 : (Try.prog.fieldsOf 93).toList.map (fun f => (f.type, f.offset)) = [(4, 0), (9, 1)] := by kernel_rfl
theorem named93 : ∀ f ∈ (Try.prog.fieldsOf 93).toList, f.name ≠ "_" := by
  have h : ((Try.prog.fieldsOf 93).toList.all fun f => f.name != "_") = true := by kernel_rfl
  intro f hf
  simpa using List.all_eq_true.1 h f hf
theorem eq93 (w : World) (d : Nat) (b : Bool) (s : List UInt8) : (Op.equalIn (d + 3) 93 (.agg (slotE b s).toArray) (.agg (slotE b s).toArray)).run Try.prog w = .ok true w := by
  rw [run_equalIn_struct w (d + 2) 93 _ _ (by kernel_rfl) (by kernel_rfl), eqFields_all w (d + 2) _ _ (fun _ => true) _ ?_]
  · rw [show ∀ l : List Nat, l.all (fun _ => true) = true from fun l => List.all_eq_true.2 (fun _ _ => rfl)]
  intro f hf
  refine ⟨named93 f hf, ?_⟩
  have hm : (f.type, f.offset) ∈ (Try.prog.fieldsOf 93).toList.map (fun f => (f.type, f.offset)) := List.mem_map.2 ⟨f, hf, rfl⟩
  rw [fields93] at hm
  simp only [List.mem_cons, Prod.mk.injEq, List.mem_nil_iff, or_false] at hm
  rcases hm with ⟨h1, h2⟩ | ⟨h1, h2⟩ <;> rw [h1, h2]
  · refine ⟨.bool b, .bool b, run_part_plain w (by kernel_rfl) rfl, run_part_plain w (by kernel_rfl) rfl, ?_⟩
    rw [run_equalIn_bool' w (d + 1) 4 b b Try.underlying4]
    simp
  · refine ⟨.string ⟨s.toArray⟩, .string ⟨s.toArray⟩, run_part_plain w (by kernel_rfl) rfl, run_part_plain w (by kernel_rfl) rfl, ?_⟩
    rw [run_equalIn_string w (d + 1) 9 _ _ Try.underlying9]
    simp
def cmpNe (t : TypeId) (x y : Operand) (u v : Value) : Sem Next := do pure (.value (← (do eqGuard .neq t x y u v; binOp .neq t u v)))
theorem execOp_neq93 (a : Act) (dst : Option Tmp) (x y : Operand) (ty : TypeId) (pos : String) (after : Array Edge) (guard : Option (Nat × Bool)) :
    execOp a.eval { dst, op := .binOp .neq 93 x y 93, type := ty, pos, after, guard } = cmpNe 93 x y (a.eval x) (a.eval y) := rfl
theorem neq93 (w : World) (x y : Operand) (b : Bool) (s : List UInt8) : (cmpNe 93 x y (.agg (slotE b s).toArray) (.agg (slotE b s).toArray)).run Try.prog w = .ok (.value (.bool false)) w := by
  have h1 : (binOp .neq 93 (.agg (slotE b s).toArray) (.agg (slotE b s).toArray)).run Try.prog w = .ok (.bool false) w := by rw [run_neq_struct, eq93 w 9997]; rfl
  have ht : Try.prog.eqGuardType Try.prog.depth 93 = false := by kernel_rfl
  have hg : (eqGuard .neq 93 x y (.agg (slotE b s).toArray) (.agg (slotE b s).toArray)).run Try.prog w = .ok () w := by
    unfold eqGuard
    simp [Sem.run_bind, run_program, ht]
  unfold cmpNe
  simp only [Sem.run_bind, hg, Result.andThen_ok, h1]
  rfl
def SRq (W0 : World) (b2 b3 : Nat) (C2 C3 : List Value) (W : World) : Prop := blk W b2 = some C2 ∧ blk W b3 = some C3 ∧ W0.Extends W
def srI (W0 : World) (b2 b3 : Nat) (C2 C3 : List Value) (n : Nat) (s : Nat) (f : Nat → Value) (W : World) : Prop := f 2 = .pointer (some ⟨b2, 0, none⟩) ∧ f 3 = .pointer (some ⟨b3, 0, none⟩) ∧ ∃ (i : Nat), i ≤ n ∧ f s = .int .i64 (i : Nat) ∧ Hid (SRq W0 b2 b3 C2 C3 W)
theorem ItemsOk.at {W : World} {B : Nat} {K : List Dsc} {L : List It} (h : ItemsOk W B K L) {i : Nat} {d : Dsc} (hd : K[i]? = some d) : ∃ it, L[i]? = some it ∧ ItemOk W B d it := by
  have hl : i < L.length := by rw [← h.1]; exact (List.getElem?_eq_some_iff.1 hd).1
  exact ⟨_, List.getElem?_eq_getElem hl, h.2 i d _ hd (List.getElem?_eq_getElem hl)⟩
attribute [local go_sem ↓] execOp_neq93
attribute [local go_sem] neq93 it_len it0 it1 it2 it_set0 it_set2 it_all it_put it_put2 it_ok rq_len rq0 rq1 rq2 rq3 rq4 rq_all rq_ok so_len so_all so_ok
set_option maxRecDepth 20000 in
set_option maxHeartbeats 2000000 in
theorem sameRequest_eq (W : World) (B B' : Nat) (k : Int) (ba : Option Addr) (bn bc : Nat) (ia : Option Addr) (iN ic : Nat) (p : Int) (sa : Option Addr) (sn sc : Nat) (ba' : Option Addr) (bc' : Nat) (ia' : Option Addr) (ic' : Nat) (sa' : Option Addr) (sc' : Nat) (q : Rq) (hbl : bn ≤ 1000000000000) (hil : iN ≤ 1000000000000) (hsl : sn ≤ 1000000000000) (hal : ∀ it ∈ q.items, it.2.2.length ≤ 1000000000000)
    (h1 : ReqOk W B k ba bn bc ia iN ic p sa sn sc q) (h2 : ReqOk W B' k ba' bn bc' ia' iN ic' p sa' sn sc' q) : Calls Try.prog 15 #[.agg (reqE k ba bn bc ia iN ic p sa sn sc).toArray, .agg (reqE k ba' bn bc' ia' iN ic' p sa' sn sc').toArray] W fun e W' => e = .returned (.bool true) ∧ W.Extends W' := by
  obtain ⟨z1, hb, ⟨K, hK, hI⟩, z2, hs⟩ := h1
  obtain ⟨z3, hb', ⟨K', hK', hI'⟩, z4, hs'⟩ := h2
  have HB : Hid (Bs W ba bn q.blob) := (bs_own hb).1
  have HB' : Hid (Bs W ba' bn q.blob) := (bs_own hb').1
  have HK : Hid (Rw encD 3 W ia iN K) := (rw_own encD_len hK).1
  have HK' : Hid (Rw encD 3 W ia' iN K') := (rw_own encD_len hK').1
  have HS : Hid (Rw encL 2 W sa sn q.slots) := (rw_own encL_len hs).1
  have HS' : Hid (Rw encL 2 W sa' sn q.slots) := (rw_own encL_len hs').1
  have HI : Hid (ItemsOk W B K q.items) := hI
  have HI' : Hid (ItemsOk W B' K' q.items) := hI'
  have HAL : Hid (∀ it ∈ q.items, it.2.2.length ≤ 1000000000000) := hal
  clear z1 z2 z3 z4 hb hK hI hs hb' hK' hI' hs' hal
  go_enter Try.func15, Try.ntmps15
  go_upto_region 1 with fail
  refine wp_world (fun W0 => blk W0 W.heap.size = some (reqE k ba bn bc ia iN ic p sa sn sc) ∧ blk W0 (W.heap.size + 1) = some (reqE k ba' bn bc' ia' iN ic' p sa' sn sc') ∧ Hid (W.Extends W0)) ⟨?_, ?_, extends_alloc (extends_alloc (ext_Ext (Ext.refl _)) _) _⟩ ?_
  · rw [blk_alloc, if_neg (by rw [World.size_alloc]; omega), blk_alloc, if_pos rfl]
  · rw [blk_alloc, if_pos (by rw [World.size_alloc])]
  rintro W0 ⟨h2, h3, HE⟩
  obtain ⟨b2, hb2⟩ : ∃ b2, b2 = W.heap.size := ⟨_, rfl⟩
  obtain ⟨b3, hb3⟩ : ∃ b3, b3 = W.heap.size + 1 := ⟨_, rfl⟩
  rw [← hb2] at h2
  rw [← hb3] at h3
  rw [← hb3, ← hb2]
  have hW2 : W.heap.size ≤ b2 := by omega
  have hW3 : W.heap.size ≤ b3 := by omega
  clear hb2 hb3
  go_wp2_with fail
  refine (sameBytes_eq W0 ba ba' bn bc bc' hbl q.blob (HB.out.grow HE.out) (HB'.out.grow HE.out)).mono ?_
  rintro e W1 ⟨rfl, k1, rfl⟩
  dsimp only
  have H0 : Hid (SRq W b2 b3 (reqE k ba bn bc ia iN ic p sa sn sc) (reqE k ba' bn bc' ia' iN ic' p sa' sn sc') (W0.drewN k1)) := ⟨h2, h3, extends_drewN HE.out k1⟩
  go_wp2_with fail
  refine wp_loop_f 80 (srI W b2 b3 (reqE k ba bn bc ia iN ic p sa sn sc) (reqE k ba' bn bc' ia' iN ic' p sa' sn sc') iN 5) (fun f _ => iN - (intOf (f 5)).toNat) rfl ⟨rfl, rfl, 0, by omega, rfl, H0⟩ ?_
  clear H0 h2 h3 HE
  intro F V hrel
  obtain ⟨f2, f3, i, hi, f5, HV⟩ := hrel
  have H5 : Hid (F 5 = .int .i64 (i : Nat)) := f5
  rw [frame80, f2, f3, f5]
  clear f2 f3 f5
  obtain ⟨v2, v3, hev⟩ := HV.out
  have HEV : Hid (W.Extends V) := hev
  clear hev
  by_cases hin : i < iN
  · have hin' : (i : Int) < (iN : Int) := by omega
    obtain ⟨d, b, C, hx, rfl, hC, hCl, u0⟩ := HK.out.at hin
    obtain ⟨d', b', C', hx', rfl, hC', hCl', u0'⟩ := HK'.out.at hin
    obtain ⟨it, g1, g2⟩ := HI.out.at hx
    obtain ⟨it', g1', g2'⟩ := HI'.out.at hx'
    obtain rfl : it' = it := Option.some.inj (g1'.symm.trans g1)
    obtain ⟨dl, pp, na, nn, nc⟩ := d
    obtain ⟨dl', pp', na', nn', nc'⟩ := d'
    obtain ⟨e1, e2, e3⟩ := g2
    obtain ⟨e1', e2', e3'⟩ := g2'
    dsimp only at e1 e2 e3 e1' e2' e3'
    obtain rfl : dl' = dl := e1'.trans e1.symm
    obtain rfl : pp' = pp := e2'.trans e2.symm
    have hr := (rw_own encS_len e3).1
    have hr' := (rw_own encS_len e3').1
    obtain rfl : nn' = nn := hr'.1.symm.trans hr.1
    have hnn : nn' ≤ 1000000000000 := by rw [← hr.1]; exact HAL.out _ (List.mem_of_getElem? g1)
    have HR : Hid (Rw encS 1 W na nn' it'.2.2) := hr
    have HR' : Hid (Rw encS 1 W na' nn' it'.2.2) := hr'
    have hCV : blk V b = some C := (HEV.out.blk (blk_lt hC)).trans hC
    have hCV' : blk V b' = some C' := (HEV.out.blk (blk_lt hC')).trans hC'
    have u1 : seg C (i * 3) 3 = itemE dl' pp' na nn' nc := u0
    have u1' : seg C' (i * 3) 3 = itemE dl' pp' na' nn' nc' := u0'
    have p0 : (0 : Int) ≤ (i : Int) := by omega
    have p2 : ((i : Int)).toNat = i := by omega
    have c3 : i * 3 + 3 ≤ C.length := by omega
    have c3' : i * 3 + 3 ≤ C'.length := by omega
    clear hC hC' hx hx' u0 u0' g1 g1' e1 e2 e3 e1' e2' e3' hr hr'
    repeat go_step
    refine wp_region_held_drew (S := fun W' => blk W' b2 = some (reqE k ba bn bc (some ⟨b, 0, none⟩) iN ic p sa sn sc) ∧ blk W' b3 = some (reqE k ba' bn bc' (some ⟨b', 0, none⟩) iN ic' p sa' sn sc') ∧ blk W' b = some C ∧ blk W' b' = some C') (by kernel_rfl) ⟨v2, v3, hCV, hCV'⟩ (fun hHeld => ?_)
    refine wpAnyH_take (i := 0) (oi := ⟨_, _, _, _, _, _⟩) (v := ?_) rfl (by kernel_rfl) (by kernel_rfl) (by kernel_rfl) (fun _ _ _ h => h) (Or.inl ⟨by rfl, ?_⟩) (by assumption) ?_
    rotate_left 1
    · intro W' hSw
      obtain ⟨hS1, hS2, hS3, hS4⟩ := hSw
      go_simp
      try with_reducible rfl
    try simp only [Act.put, List.setIfInBounds_toArray, List.set_cons_zero, List.set_cons_succ]
    refine wpAnyH_take (i := 1) (oi := ⟨_, _, _, _, _, _⟩) (v := ?_) rfl (by kernel_rfl) (by kernel_rfl) (by kernel_rfl) (fun _ _ _ h => h) (Or.inl ⟨by rfl, ?_⟩) (by assumption) ?_
    rotate_left 1
    · intro W' hSw
      obtain ⟨hS1, hS2, hS3, hS4⟩ := hSw
      go_simp
      try with_reducible rfl
    try simp only [Act.put, List.setIfInBounds_toArray, List.set_cons_zero, List.set_cons_succ]
    refine wpAnyH_take (i := 2) (oi := ⟨_, _, _, _, _, _⟩) (v := ?_) rfl (by kernel_rfl) (by kernel_rfl) (by kernel_rfl) (fun _ _ _ h => h) (Or.inl ⟨by rfl, ?_⟩) (by assumption) ?_
    rotate_left 1
    · intro W' hSw
      obtain ⟨hS1, hS2, hS3, hS4⟩ := hSw
      go_simp
      try with_reducible rfl
    try simp only [Act.put, List.setIfInBounds_toArray, List.set_cons_zero, List.set_cons_succ]
    refine wpAnyH_take (i := 3) (oi := ⟨_, _, _, _, _, _⟩) (v := ?_) rfl (by kernel_rfl) (by kernel_rfl) (by kernel_rfl) (fun _ _ _ h => h) (Or.inl ⟨by rfl, ?_⟩) (by assumption) ?_
    rotate_left 1
    · intro W' hSw
      obtain ⟨hS1, hS2, hS3, hS4⟩ := hSw
      go_simp
      try with_reducible rfl
    try simp only [Act.put, List.setIfInBounds_toArray, List.set_cons_zero, List.set_cons_succ]
    refine wpAnyH_take (i := 4) (oi := ⟨_, _, _, _, _, _⟩) (v := ?_) rfl (by kernel_rfl) (by kernel_rfl) (by kernel_rfl) (fun _ _ _ h => h) (Or.inl ⟨by rfl, ?_⟩) (by assumption) ?_
    rotate_left 1
    · intro W' hSw
      obtain ⟨hS1, hS2, hS3, hS4⟩ := hSw
      go_simp
      try with_reducible rfl
    try simp only [Act.put, List.setIfInBounds_toArray, List.set_cons_zero, List.set_cons_succ]
    refine wpAnyH_take (i := 5) (oi := ⟨_, _, _, _, _, _⟩) (v := ?_) rfl (by kernel_rfl) (by kernel_rfl) (by kernel_rfl) (fun _ _ _ h => h) (Or.inl ⟨by rfl, ?_⟩) (by assumption) ?_
    rotate_left 1
    · intro W' hSw
      obtain ⟨hS1, hS2, hS3, hS4⟩ := hSw
      go_simp
      try with_reducible rfl
    try simp only [Act.put, List.setIfInBounds_toArray, List.set_cons_zero, List.set_cons_succ]
    refine wpAnyH_take (i := 6) (oi := ⟨_, _, _, _, _, _⟩) (v := ?_) rfl (by kernel_rfl) (by kernel_rfl) (by kernel_rfl) (fun _ _ _ h => h) (Or.inl ⟨by rfl, ?_⟩) (by assumption) ?_
    rotate_left 1
    · intro W' hSw
      obtain ⟨hS1, hS2, hS3, hS4⟩ := hSw
      go_simp
      try with_reducible rfl
    try simp only [Act.put, List.setIfInBounds_toArray, List.set_cons_zero, List.set_cons_succ]
    refine wpAnyH_take (i := 7) (oi := ⟨_, _, _, _, _, _⟩) (v := ?_) rfl (by kernel_rfl) (by kernel_rfl) (by kernel_rfl) (fun _ _ _ h => h) (Or.inl ⟨by rfl, ?_⟩) (by assumption) ?_
    rotate_left 1
    · intro W' hSw
      obtain ⟨hS1, hS2, hS3, hS4⟩ := hSw
      go_simp
      try with_reducible rfl
    try simp only [Act.put, List.setIfInBounds_toArray, List.set_cons_zero, List.set_cons_succ]
    refine wpAnyH_take (i := 8) (oi := ⟨_, _, _, _, _, _⟩) (v := ?_) rfl (by kernel_rfl) (by kernel_rfl) (by kernel_rfl) (fun _ _ _ h => h) (Or.inl ⟨by rfl, ?_⟩) (by assumption) ?_
    rotate_left 1
    · intro W' hSw
      obtain ⟨hS1, hS2, hS3, hS4⟩ := hSw
      go_simp
      try with_reducible rfl
    try simp only [Act.put, List.setIfInBounds_toArray, List.set_cons_zero, List.set_cons_succ]
    refine wpAnyH_take (i := 9) (oi := ⟨_, _, _, _, _, _⟩) (v := ?_) rfl (by kernel_rfl) (by kernel_rfl) (by kernel_rfl) (fun _ _ _ h => h) (Or.inl ⟨by rfl, ?_⟩) (by assumption) ?_
    rotate_left 1
    · intro W' hSw
      obtain ⟨hS1, hS2, hS3, hS4⟩ := hSw
      go_simp
      try with_reducible rfl
    try simp only [Act.put, List.setIfInBounds_toArray, List.set_cons_zero, List.set_cons_succ]
    refine wpAnyH_ready (rs := [10]) (by kernel_rfl) (by simp) ?_
    refine AllReadyH.cons (o := ⟨_, _, _, _, _, _⟩) rfl (fun K' hK => ?_) AllReadyH.nil
    go_simp
    refine (sameItem_eq V.drew dl' pp' na na' nn' nc nc' hnn it'.2.2 (HR.out.grow (extends_drew HEV.out)) (HR'.out.grow (extends_drew HEV.out))).mono ?_
    rintro e V1 ⟨rfl, hE1⟩
    dsimp only
    refine hK.out _ _ ⟨(hE1.blk (blk_lt v2)).trans v2, (hE1.blk (blk_lt v3)).trans v3, (hE1.blk (blk_lt hCV)).trans hCV, (hE1.blk (blk_lt hCV')).trans hCV'⟩ (fun hHeld => ?_)
    clear hK K'
    try simp only [Act.put, List.setIfInBounds_toArray, List.set_cons_zero, List.set_cons_succ]
    refine wpAnyH_take (i := 11) (oi := ⟨_, _, _, _, _, _⟩) (v := ?_) rfl (by kernel_rfl) (by kernel_rfl) (by kernel_rfl) (fun _ _ _ h => h) (Or.inl ⟨by rfl, ?_⟩) (by assumption) ?_
    rotate_left 1
    · intro W' hSw
      obtain ⟨hS1, hS2, hS3, hS4⟩ := hSw
      go_simp
      try with_reducible rfl
    try simp only [Act.put, List.setIfInBounds_toArray, List.set_cons_zero, List.set_cons_succ]
    refine wpAnyH_done (by kernel_rfl) ?_ _
    have HV1 : Hid (SRq W b2 b3 (reqE k ba bn bc (some ⟨b, 0, none⟩) iN ic p sa sn sc) (reqE k ba' bn bc' (some ⟨b', 0, none⟩) iN ic' p sa' sn sc') V1) := ⟨(hE1.blk (blk_lt v2)).trans v2, (hE1.blk (blk_lt v3)).trans v3, (extends_drew HEV.out).trans hE1⟩
    clear hE1 hHeld hCV hCV' v2 v3 HV
    go_wp2_with fail
    refine ⟨rfl, rfl, ⟨rfl, rfl, i + 1, by omega, ?_, HV1⟩, ?_⟩
    · show Value.int .i64 _ = _
      go_num
    · show iN - (intOf (Value.int .i64 _)).toNat < iN - (intOf (F 5)).toNat
      rw [H5.out]
      simp [intOf]; omega
  · obtain rfl : i = iN := by omega
    have hin' : ¬ ((i : Int) < (i : Int)) := by omega
    have HV2 : Hid (SRq W b2 b3 (reqE k ba bn bc ia i ic p sa sn sc) (reqE k ba' bn bc' ia' i ic' p sa' sn sc') V) := HV.out
    clear HV HK HK' HI HI' HAL
    go_wp2_with fail
    refine wp_loop_f 80 (srI W b2 b3 (reqE k ba bn bc ia i ic p sa sn sc) (reqE k ba' bn bc' ia' i ic' p sa' sn sc') sn 6) (fun f _ => sn - (intOf (f 6)).toNat) rfl ⟨rfl, rfl, 0, by omega, rfl, HV2⟩ ?_
    clear HV2 v2 v3 HEV H5
    intro F V hrel
    obtain ⟨f2, f3, j, hj, f6, HV⟩ := hrel
    have H6 : Hid (F 6 = .int .i64 (j : Nat)) := f6
    rw [frame80, f2, f3, f6]
    clear f2 f3 f6
    obtain ⟨v2, v3, hev⟩ := HV.out
    have HEV : Hid (W.Extends V) := hev
    clear hev
    by_cases hjn : j < sn
    · have hjn' : (j : Int) < (sn : Int) := by omega
      obtain ⟨d, b, C, hx, rfl, hC, hCl, u0⟩ := HS.out.at hjn
      obtain ⟨d', b', C', hx', rfl, hC', hCl', u0'⟩ := HS'.out.at hjn
      obtain rfl : d' = d := Option.some.inj (hx'.symm.trans hx)
      obtain ⟨sb, ss⟩ := d'
      have hCV : blk V b = some C := (HEV.out.blk (blk_lt hC)).trans hC
      have hCV' : blk V b' = some C' := (HEV.out.blk (blk_lt hC')).trans hC'
      have u1 : seg C (j * 2) 2 = slotE sb ss := u0
      have u1' : seg C' (j * 2) 2 = slotE sb ss := u0'
      have p0 : (0 : Int) ≤ (j : Int) := by omega
      have p2 : ((j : Int)).toNat = j := by omega
      have c3 : j * 2 + 2 ≤ C.length := by omega
      have c3' : j * 2 + 2 ≤ C'.length := by omega
      have HV2 : ∀ m, Hid (SRq W b2 b3 (reqE k ba bn bc ia i ic p (some ⟨b, 0, none⟩) sn sc) (reqE k ba' bn bc' ia' i ic' p (some ⟨b', 0, none⟩) sn sc') (V.drewN m)) := fun m => ⟨v2, v3, extends_drewN HEV.out m⟩
      clear hC hC' hx hx' u0 u0' HV
      repeat go_step
      go_quiet (fail)
      go_wp2_with fail
      refine ⟨rfl, rfl, ⟨rfl, rfl, j + 1, by omega, ?_, HV2 _⟩, ?_⟩
      · show Value.int .i64 _ = _
        go_num
      · show sn - (intOf (Value.int .i64 _)).toNat < sn - (intOf (F 6)).toNat
        rw [H6.out]
        simp [intOf]; omega
    · obtain rfl : j = sn := by omega
      have hjn' : ¬ ((j : Int) < (j : Int)) := by omega
      go_wp2_with fail
      go_ret
      exact ⟨rfl, HEV.out⟩
end Go.Proofs.Qxb6500787a
