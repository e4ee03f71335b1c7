
import Derived.Test.Qxb6500787aGreatRq
import Derived.StillTailTactics
import Derived.Deep.QuietTactic
import Derived.BigQuiet
import Derived.Deep.RegionHeld
import Derived.Deep.CutRange
import Derived.Laws.ResultCell
import Derived.Laws.Rows
import Derived.DeepKeys
import Derived.DataBytes
import Derived.Laws.StructEq
import Derived.Laws.AppendOwn
import Derived.Laws.MakeOwn
import Derived.Lib.AppendStr
set_option linter.unusedSimpArgs false
set_option linter.unusedVariables false
namespace Go.Proofs.Qxb6500787aGreat
open Go.RowKit Go.Blk
attribute [local go_sem ↓] execOp_load execOp_store execOp_alloc
attribute [local go_sem] Tryz.ld26 Tryz.st26 Tryz.ld27 Tryz.st27 Tryz.ld28 Tryz.st28 Tryz.ld3 Tryz.st3 Tryz.ld29 Tryz.st29 Tryz.ld4 Tryz.st4 Tryz.ld50 Tryz.st50 Tryz.ld68 Tryz.st68 Tryz.ld9 Tryz.st9 Tryz.ld2 Tryz.st2 Tryz.ld5 Tryz.st5 Tryz.ld12 Tryz.st12 Tryz.ld21 Tryz.st21 Tryz.ld22 Tryz.st22 Tryz.ld24 Tryz.st24 Tryz.ld32 Tryz.st32 Tryz.ld40 Tryz.st40 Tryz.ld44 Tryz.st44 Tryz.ld49 Tryz.st49 Tryz.ld58 Tryz.st58 Tryz.ld97 Tryz.st97 Tryz.ld101 Tryz.st101 Tryz.ld116 Tryz.st116 Tryz.ld121 Tryz.st121 Tryz.ld135 Tryz.st135 Tryz.ld136 Tryz.st136 Tryz.ld138 Tryz.st138 Tryz.ld139 Tryz.st139 Tryz.ld142 Tryz.st142 Tryz.ld143 Tryz.st143 Tryz.ld146 Tryz.st146 Tryz.ld148 Tryz.st148 Tryz.ld154 Tryz.st154 Tryz.ld159 Tryz.st159 Tryz.ld173 Tryz.st173 Tryz.ld183 Tryz.st183 Tryz.ld184 Tryz.st184 Tryz.ld187 Tryz.st187 Tryz.ld192 Tryz.st192 Tryz.ld195 Tryz.st195 Tryz.ld217 Tryz.st217 Tryz.ld222 Tryz.st222 Tryz.ld241 Tryz.st241 Tryz.ld248 Tryz.st248 Tryz.ld268 Tryz.st268 Tryz.ld272 Tryz.st272 Tryz.ld129 Tryz.st129 Tryz.ld31 Tryz.st31 Tryz.ld52 Tryz.st52 Tryz.ld70 Tryz.st70 Tryz.ld74 Tryz.st74 Tryz.ld93 Tryz.st93 Tryz.al129 Tryz.al31 Tryz.al52 Tryz.al70 Tryz.al74 Tryz.al93
attribute [local go_sem] Request.length_enc Request.ok_enc Request.all_get Request.all_set Request.kind_get Request.kind_set Request.blob_get Request.blob_set Request.items_get Request.items_set Request.pred_get Request.pred_set Request.slots_get Request.slots_set Item.length_enc Item.ok_enc Item.all_get Item.all_set Item.del_get Item.del_set Item.pred_get Item.pred_set Item.args_get Item.args_set GOp.length_enc GOp.ok_enc GOp.all_get GOp.all_set GOp.kind_get GOp.kind_set GOp.raw_get GOp.raw_set Reader.length_enc Reader.ok_enc Reader.all_get Reader.all_set Reader.buf_get Reader.buf_set Reader.at__get Reader.at__set Slot.length_enc Slot.ok_enc Slot.all_get Slot.all_set Slot.bound_get Slot.bound_set Slot.name_get Slot.name_set
attribute [local go_sem] size_put size_ext blk_put free_put blk_alloc free_alloc blk_drew free_drew blk_ext free_ext lookOr_some putOr_some segAt_some cellAt_some storeIn_some put_put put_alloc_new length_arr ok_arr_u8 ok_arr_u32 ok_arr_u64 ok_arr_i64 ok_arr_sl cellsV_agg cellsV_int cellsV_bool cellsV_string cellsV_pointer cellsV_slice cellsV_sl ok_int ok_bool ok_string ok_pointer ok_slice ok_sl toList_arr seg_arr set_arr nth_splice nth_splice0 seg_splice seg_splice0 splice_splice splice_splice0 length_splice_if
attribute [local go_sem ↓] execOp_box
attribute [local go_sem] box_run nth_arr_u8 put_arr_u8 blk_drewN free_drewN put_drewN blk_raw free_raw
/-- A slice of bytes of one's own: it lies behind w0, and w0 is as it was. -/
def Ob (w0 W : World) (a : Option Addr) (n c : Nat) (zs : List UInt8) : Prop := W.ownsRow w0.heap.size 5 1 (.slice a n c) zs.length (bv zs) ∧ w0.Extends W ∧ n = zs.length
theorem Ob.ext {w0 W W' : World} {a : Option Addr} {n c : Nat} {zs : List UInt8} (h : Ob w0 W a n c zs) (he : W.Extends W') : Ob w0 W' a n c zs :=
  ⟨row_keep h.1 (fun k hk => he.block k (row_at h.1 k hk).2.1), h.2.1.trans he, h.2.2⟩
/-- Blocks that hold no bytes are as they were. -/
def Nb (W W' : World) : Prop := ∀ (k : Nat) (cur : Array Value) (t : TypeId) (fz : Nat × Nat), W.heap[k]? = some (.cells cur t fz) → t ≠ 5 → W'.heap[k]? = W.heap[k]?
theorem Nb.refl (W : World) : Nb W W := fun _ _ _ _ _ _ => rfl
theorem Nb.of_extends {W W' : World} (h : W.Extends W') : Nb W W' := fun k cur t fz hk _ => h.block k (Array.getElem?_eq_some_iff.1 hk).1
theorem Nb.trans {W W' W'' : World} (h : Nb W W') (h' : Nb W' W'') : Nb W W'' := fun k cur t fz hk ht => (h' k cur t fz ((h k cur t fz hk ht).trans hk) ht).trans (h k cur t fz hk ht)
theorem Nb.of_grown {B : Nat} {W W' : World} {v : Value} {sz n : Nat} {xs : List Value} (hg : W.grownBy W' v.ownBlock) (ho : W.ownsRow B 5 sz v n xs) : Nb W W' := fun k cur t fz hk ht => hg.block k (Array.getElem?_eq_some_iff.1 hk).1 (fun e1 => by
  obtain ⟨_, _, cur', fz', h3⟩ := row_at ho k e1.symm
  rw [hk] at h3
  injection h3 with h4
  injection h4 with _ h5
  exact ht h5)
theorem bslice27a (w : World) (x : Int) : (bsliceOp 31 1 #[(0, .int .u8 x)]).run Tryz.prog w = .ok (.value (.slice (some ⟨w.heap.size, 0, none⟩) 1 1)) (w.alloc (.cells #[.int .u8 x] 5)) := by kernel_rfl
theorem bslice27b (w : World) (x y : Int) : (bsliceOp 31 2 #[(0, .int .u8 x), (1, .int .u8 y)]).run Tryz.prog w = .ok (.value (.slice (some ⟨w.heap.size, 0, none⟩) 2 2)) (w.alloc (.cells #[.int .u8 x, .int .u8 y] 5)) := by kernel_rfl
theorem ob_app {w0 W : World} {a : Option Addr} {n c : Nat} {zs : List UInt8} (h : Ob w0 W a n c zs) (hl : zs.length ≤ 1000000) (xs : List UInt8) (hx : xs.length ≤ 1000000) (hx0 : xs ≠ []) (A : Array Value) (hA : A = (bv xs).toArray) (m : Nat) (hm : xs.length = m) :
    ∃ a' c' W', (Builtin.append_ #[31, 31] 31 #[.slice a n c, .slice (some ⟨W.heap.size, 0, none⟩) m m]).run Tryz.prog (W.alloc (.cells A 5)) = .ok (.slice a' (n + m) c') W' ∧ Ob w0 W' a' (n + m) c' (zs ++ xs) ∧ Nb W W' := by
  subst hA
  have hx5 : W.Extends (W.alloc (.cells (bv xs).toArray 5)) := extends_alloc (ext_Ext (Ext.refl _)) _
  have h5 := h.ext hx5
  have hbs : Bs (W.alloc (.cells (bv xs).toArray 5)) (some ⟨W.heap.size, 0, none⟩) xs.length xs := by
    refine ⟨rfl, fun _ => ⟨W.heap.size, 0, bv xs, rfl, (blk_alloc _ _ _ _).trans (if_pos rfl), by rw [length_bv]; omega, ?_⟩, .inr ⟨_, _, rfl⟩⟩
    unfold seg
    rw [List.drop_zero, List.take_of_length_le (by rw [length_bv]; exact Nat.le_refl _)]
  obtain ⟨a', n', c', W', hr, ho, hg⟩ := appB w0.heap.size (W.alloc (.cells (bv xs).toArray 5)) 27 (.slice a n c) zs xs (some ⟨W.heap.size, 0, none⟩) xs.length h5.1 hbs h5.2.1.size (by omega)
  have hn' : n' = n + m := by
    obtain ⟨a2, c2, e⟩ := row_val ho
    have e2 : n' = (zs ++ xs).length := congrArg lenV e
    rw [e2, List.length_append, ← h.2.2, hm]
  subst hn'
  rw [hm] at hr
  exact ⟨a', c', W', hr, ⟨ho, grown_ext h5.2.1 hg (fun k hk => (row_at h5.1 k hk).1), by rw [List.length_append, ← h.2.2, hm]⟩, (Nb.of_extends hx5).trans (Nb.of_grown hg h5.1)⟩
theorem info5z : ∃ i, Tryz.prog.info? 5 = some i ∧ i.zero = some (.int .u8 0) ∧ i.size = 1 ∧ i.bytes = 1 := by
  have hq : (Tryz.prog.info? 5).map (fun i => (i.zero, i.size, i.bytes)) = some (some (.int .u8 0), 1, 1) := by kernel_rfl
  cases hx : Tryz.prog.info? 5 with
  | none => rw [hx] at hq; simp at hq
  | some i =>
    rw [hx] at hq
    simp only [Option.map_some, Option.some.injEq, Prod.mk.injEq] at hq
    exact ⟨i, rfl, hq.1, hq.2.1, hq.2.2⟩
theorem strCells_bv (s : List UInt8) : Go.Lib.strCells ⟨s.toArray⟩ = bv s := by
  unfold Go.Lib.strCells bv u8v w8
  simp
theorem ob_str {w0 W : World} {a : Option Addr} {n c : Nat} {zs : List UInt8} (h : Ob w0 W a n c zs) (hl : zs.length ≤ 1000000) (xs : List UInt8) (hx : xs.length ≤ 1000000) :
    ∃ a' c' W', (Builtin.append_ #[31, 9] 31 #[.slice a n c, .string ⟨xs.toArray⟩]).run Tryz.prog W = .ok (.slice a' (n + xs.length) c') W' ∧ Ob w0 W' a' (n + xs.length) c' (zs ++ xs) ∧ Nb W W' := by
  obtain ⟨i, hi, hz, hsz, hby⟩ := info5z
  have hs : (⟨xs.toArray⟩ : ByteArray).size = xs.length := by simp [ByteArray.size]
  obtain ⟨v', W', hr, ho, hg, _⟩ := Go.Lib.run_append_own_string (P := Tryz.prog) W w0.heap.size 31 9 31 5 i Tryz.underlying31 Tryz.underlying9 hi hz hsz hby (.slice a n c) zs.length (bv zs) h.1 ⟨xs.toArray⟩ (by rw [hs]; simp only [maxLen]; omega) (by rw [hs]; omega) h.2.1.size
  rw [hs, strCells_bv, ← bv_append] at ho
  obtain ⟨a', c', rfl⟩ := row_val ho
  rw [← h.2.2] at hr
  refine ⟨a', c', W', hr, ⟨?_, grown_ext h.2.1 hg (fun k hk => (row_at h.1 k hk).1), by rw [List.length_append, ← h.2.2]⟩, Nb.of_grown hg h.1⟩
  rw [List.length_append, h.2.2]; exact ho
theorem wpList_append_run2 {w : World} {ops : Array Oper} {rest : List Oper} {o : Oper} {a : Act} {Q : Exit → Act → World → Prop} (hgd : o.guard = none) (s x : Operand) (t t2 : TypeId)
    (ho : o.op = .call { callee := .builtin .append, args := #[s, x], argTypes := #[t, t2] }) (v u v' : Value) (w' : World) (hs : a.eval s = v) (hx : a.eval x = u) (hr : (Builtin.append_ #[t, t2] o.type #[v, u]).run Tryz.prog w = .ok v' w')
    (hK : wpList Tryz.prog ops Q rest (a.put o.dst v') w') : wpList Tryz.prog ops Q (o :: rest) a w := by
  refine wpList_plain hgd fun K hK' => ?_
  unfold Oper.wp
  simp [execOp, ho, resolve, invoke, builtin, hs, hx, hr, Result.andThen]
  exact hK' _ _ hK
def encN (nm : List UInt8) : List UInt8 := UInt8.ofNat nm.length :: nm
def PutPost (w0 W : World) (zs : List UInt8) (e : Ending) (W' : World) : Prop := ∃ a n c, e = .returned (.slice a n c) ∧ Ob w0 W' a n c zs ∧ Nb W W'
attribute [local go_sem] bslice27a bslice27b
attribute [local go_sem ↓] execOp_bslice
set_option maxRecDepth 20000 in
theorem putName_ok (w0 W : World) (a : Option Addr) (n c : Nat) (zs nm : List UInt8) (h : Ob w0 W a n c zs) (hl : zs.length ≤ 500000) (hnm : nm.length ≤ 255) : Calls Tryz.prog 106 #[.slice a n c, .string ⟨nm.toArray⟩] W (PutPost w0 W (zs ++ encN nm)) := by
  obtain ⟨k, hk⟩ : ∃ k, k = nm.length := ⟨_, rfl⟩
  have hu : bv [UInt8.ofNat nm.length] = [.int .u8 (k : Int)] := by
    unfold bv u8v w8
    rw [← hk, List.map_cons, List.map_nil, UInt8.toNat_ofNat', Nat.mod_eq_of_lt (by omega)]
  obtain ⟨a1, c1, W1, hr1, ho1, hn1⟩ := ob_app h (by omega) [UInt8.ofNat nm.length] (by simp) (by simp) #[.int .u8 (k : Int)] (by rw [hu]) 1 rfl
  obtain ⟨a2, c2, W2, hr2, ho2, hn2⟩ := ob_str ho1 (by simp; omega) nm (by omega)
  have HP : Hid (PutPost w0 W (zs ++ encN nm) (.returned (.slice a2 (n + 1 + k) c2)) W2) := by
    refine ⟨a2, _, c2, rfl, ?_, hn1.trans hn2⟩
    rw [List.append_assoc] at ho2
    rw [hk]
    exact ho2
  obtain ⟨s, hs⟩ : ∃ s : ByteArray, s = ⟨nm.toArray⟩ := ⟨_, rfl⟩
  have hss : s.size = k := by rw [hs, hk]; simp [ByteArray.size]
  rw [← hs] at hr2 ⊢
  rw [← hk] at hr2
  have w1 : IntKind.u8.wrap (k : Int) = (k : Int) := by rw [IntKind.wrap_u8]; omega
  clear hu h ho1 ho2 hs hk hn1 hn2
  go_enter Tryz.func106, Tryz.ntmps106
  go_wp2_with (at_builtin; first | refine wpList_append_run rfl _ _ 31 rfl _ _ _ _ rfl rfl hr1 ?_ | refine wpList_append_run2 rfl _ _ 31 9 rfl _ _ _ _ rfl rfl hr2 ?_)
  go_ret
  exact HP.out
end Go.Proofs.Qxb6500787aGreat
