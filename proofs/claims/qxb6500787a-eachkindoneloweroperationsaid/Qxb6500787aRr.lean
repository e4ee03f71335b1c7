import Derived.Test.Qxb6500787aRq
import Derived.StillTailTactics
import Derived.Deep.QuietTactic
import Derived.BigQuiet
import Derived.Deep.RegionHeld
import Derived.Deep.CutRange
import Derived.Laws.ResultCell
import Derived.Laws.Rows
import Derived.DeepKeys
import Derived.DataBytes
import Derived.Laws.StructEq
import Derived.Laws.AppendOwn
import Derived.Laws.MakeOwn
import Derived.Lib.AppendStr
set_option linter.unusedSimpArgs false
set_option linter.unusedVariables false
namespace Go.Proofs.Qxb6500787a
open Go.RowKit Go.Blk
attribute [local go_sem ↓] execOp_load execOp_store execOp_alloc
attribute [local go_sem] Try.ld26 Try.st26 Try.ld27 Try.st27 Try.ld28 Try.st28 Try.ld3 Try.st3 Try.ld29 Try.st29 Try.ld4 Try.st4 Try.ld50 Try.st50 Try.ld68 Try.st68 Try.ld9 Try.st9 Try.ld2 Try.st2 Try.ld5 Try.st5 Try.ld12 Try.st12 Try.ld21 Try.st21 Try.ld22 Try.st22 Try.ld24 Try.st24 Try.ld32 Try.st32 Try.ld40 Try.st40 Try.ld44 Try.st44 Try.ld49 Try.st49 Try.ld58 Try.st58 Try.ld63 Try.st63 Try.ld97 Try.st97 Try.ld101 Try.st101 Try.ld116 Try.st116 Try.ld121 Try.st121 Try.ld135 Try.st135 Try.ld136 Try.st136 Try.ld138 Try.st138 Try.ld139 Try.st139 Try.ld142 Try.st142 Try.ld143 Try.st143 Try.ld146 Try.st146 Try.ld148 Try.st148 Try.ld154 Try.st154 Try.ld159 Try.st159 Try.ld173 Try.st173 Try.ld183 Try.st183 Try.ld184 Try.st184 Try.ld187 Try.st187 Try.ld192 Try.st192 Try.ld195 Try.st195 Try.ld217 Try.st217 Try.ld222 Try.st222 Try.ld241 Try.st241 Try.ld248 Try.st248 Try.ld268 Try.st268 Try.ld272 Try.st272 Try.ld129 Try.st129 Try.ld31 Try.st31 Try.ld52 Try.st52 Try.ld70 Try.st70 Try.ld74 Try.st74 Try.ld93 Try.st93 Try.al129 Try.al31 Try.al52 Try.al70 Try.al74 Try.al93
attribute [local go_sem] Request.length_enc Request.ok_enc Request.all_get Request.all_set Request.kind_get Request.kind_set Request.blob_get Request.blob_set Request.items_get Request.items_set Request.pred_get Request.pred_set Request.slots_get Request.slots_set Item.length_enc Item.ok_enc Item.all_get Item.all_set Item.del_get Item.del_set Item.pred_get Item.pred_set Item.args_get Item.args_set GOp.length_enc GOp.ok_enc GOp.all_get GOp.all_set GOp.kind_get GOp.kind_set GOp.raw_get GOp.raw_set Reader.length_enc Reader.ok_enc Reader.all_get Reader.all_set Reader.buf_get Reader.buf_set Reader.at__get Reader.at__set Slot.length_enc Slot.ok_enc Slot.all_get Slot.all_set Slot.bound_get Slot.bound_set Slot.name_get Slot.name_set
attribute [local go_sem] size_put size_ext blk_put free_put blk_alloc free_alloc blk_drew free_drew blk_ext free_ext lookOr_some putOr_some segAt_some cellAt_some storeIn_some put_put put_alloc_new length_arr ok_arr_u8 ok_arr_u32 ok_arr_u64 ok_arr_i64 ok_arr_sl cellsV_agg cellsV_int cellsV_bool cellsV_string cellsV_pointer cellsV_slice cellsV_sl ok_int ok_bool ok_string ok_pointer ok_slice ok_sl toList_arr seg_arr set_arr nth_splice nth_splice0 seg_splice seg_splice0 splice_splice splice_splice0 length_splice_if
attribute [local go_sem ↓] execOp_box
attribute [local go_sem] box_run nth_arr_u8 put_arr_u8 blk_drewN free_drewN put_drewN blk_raw free_raw
/-- A slice of bytes of one's own: it lies behind w0, and w0 is as it was. -/
def Ob (w0 W : World) (a : Option Addr) (n c : Nat) (zs : List UInt8) : Prop := W.ownsRow w0.heap.size 5 1 (.slice a n c) zs.length (bv zs) ∧ w0.Extends W ∧ n = zs.length
theorem Ob.ext {w0 W W' : World} {a : Option Addr} {n c : Nat} {zs : List UInt8} (h : Ob w0 W a n c zs) (he : W.Extends W') : Ob w0 W' a n c zs :=
  ⟨row_keep h.1 (fun k hk => he.block k (row_at h.1 k hk).2.1), h.2.1.trans he, h.2.2⟩
/-- Blocks that hold no bytes are as they were. -/
def Nb (W W' : World) : Prop := ∀ (k : Nat) (cur : Array Value) (t : TypeId) (fz : Nat × Nat), W.heap[k]? = some (.cells cur t fz) → t ≠ 5 → W'.heap[k]? = W.heap[k]?
theorem Nb.refl (W : World) : Nb W W := fun _ _ _ _ _ _ => rfl
theorem Nb.of_extends {W W' : World} (h : W.Extends W') : Nb W W' := fun k cur t fz hk _ => h.block k (Array.getElem?_eq_some_iff.1 hk).1
theorem Nb.trans {W W' W'' : World} (h : Nb W W') (h' : Nb W' W'') : Nb W W'' := fun k cur t fz hk ht => (h' k cur t fz ((h k cur t fz hk ht).trans hk) ht).trans (h k cur t fz hk ht)
theorem Nb.of_grown {B : Nat} {W W' : World} {v : Value} {sz n : Nat} {xs : List Value} (hg : W.grownBy W' v.ownBlock) (ho : W.ownsRow B 5 sz v n xs) : Nb W W' := fun k cur t fz hk ht => hg.block k (Array.getElem?_eq_some_iff.1 hk).1 (fun e1 => by
  obtain ⟨_, _, cur', fz', h3⟩ := row_at ho k e1.symm
  rw [hk] at h3
  injection h3 with h4
  injection h4 with _ h5
  exact ht h5)
theorem bslice27a (w : World) (x : Int) : (bsliceOp 27 1 #[(0, .int .u8 x)]).run Try.prog w = .ok (.value (.slice (some ⟨w.heap.size, 0, none⟩) 1 1)) (w.alloc (.cells #[.int .u8 x] 5)) := by kernel_rfl
theorem bslice27b (w : World) (x y : Int) : (bsliceOp 27 2 #[(0, .int .u8 x), (1, .int .u8 y)]).run Try.prog w = .ok (.value (.slice (some ⟨w.heap.size, 0, none⟩) 2 2)) (w.alloc (.cells #[.int .u8 x, .int .u8 y] 5)) := by kernel_rfl
theorem ob_app {w0 W : World} {a : Option Addr} {n c : Nat} {zs : List UInt8} (h : Ob w0 W a n c zs) (hl : zs.length ≤ 1000000) (xs : List UInt8) (hx : xs.length ≤ 1000000) (hx0 : xs ≠ []) (A : Array Value) (hA : A = (bv xs).toArray) (m : Nat) (hm : xs.length = m) :
    ∃ a' c' W', (Builtin.append_ #[27, 27] 27 #[.slice a n c, .slice (some ⟨W.heap.size, 0, none⟩) m m]).run Try.prog (W.alloc (.cells A 5)) = .ok (.slice a' (n + m) c') W' ∧ Ob w0 W' a' (n + m) c' (zs ++ xs) ∧ Nb W W' := by
  subst hA
  have hx5 : W.Extends (W.alloc (.cells (bv xs).toArray 5)) := extends_alloc (ext_Ext (Ext.refl _)) _
  have h5 := h.ext hx5
  have hbs : Bs (W.alloc (.cells (bv xs).toArray 5)) (some ⟨W.heap.size, 0, none⟩) xs.length xs := by
    refine ⟨rfl, fun _ => ⟨W.heap.size, 0, bv xs, rfl, (blk_alloc _ _ _ _).trans (if_pos rfl), by rw [length_bv]; omega, ?_⟩, .inr ⟨_, _, rfl⟩⟩
    unfold seg
    rw [List.drop_zero, List.take_of_length_le (by rw [length_bv]; exact Nat.le_refl _)]
  obtain ⟨a', n', c', W', hr, ho, hg⟩ := appB w0.heap.size (W.alloc (.cells (bv xs).toArray 5)) 27 (.slice a n c) zs xs (some ⟨W.heap.size, 0, none⟩) xs.length h5.1 hbs h5.2.1.size (by omega)
  have hn' : n' = n + m := by
    obtain ⟨a2, c2, e⟩ := row_val ho
    have e2 : n' = (zs ++ xs).length := congrArg lenV e
    rw [e2, List.length_append, ← h.2.2, hm]
  subst hn'
  rw [hm] at hr
  exact ⟨a', c', W', hr, ⟨ho, grown_ext h5.2.1 hg (fun k hk => (row_at h5.1 k hk).1), by rw [List.length_append, ← h.2.2, hm]⟩, (Nb.of_extends hx5).trans (Nb.of_grown hg h5.1)⟩
theorem info5z : ∃ i, Try.prog.info? 5 = some i ∧ i.zero = some (.int .u8 0) ∧ i.size = 1 ∧ i.bytes = 1 := by
  have hq : (Try.prog.info? 5).map (fun i => (i.zero, i.size, i.bytes)) = some (some (.int .u8 0), 1, 1) := by kernel_rfl
  cases hx : Try.prog.info? 5 with
  | none => rw [hx] at hq; simp at hq
  | some i =>
    rw [hx] at hq
    simp only [Option.map_some, Option.some.injEq, Prod.mk.injEq] at hq
    exact ⟨i, rfl, hq.1, hq.2.1, hq.2.2⟩
theorem strCells_bv (s : List UInt8) : Go.Lib.strCells ⟨s.toArray⟩ = bv s := by
  unfold Go.Lib.strCells bv u8v w8
  simp
theorem ob_str {w0 W : World} {a : Option Addr} {n c : Nat} {zs : List UInt8} (h : Ob w0 W a n c zs) (hl : zs.length ≤ 1000000) (xs : List UInt8) (hx : xs.length ≤ 1000000) :
    ∃ a' c' W', (Builtin.append_ #[27, 9] 27 #[.slice a n c, .string ⟨xs.toArray⟩]).run Try.prog W = .ok (.slice a' (n + xs.length) c') W' ∧ Ob w0 W' a' (n + xs.length) c' (zs ++ xs) ∧ Nb W W' := by
  obtain ⟨i, hi, hz, hsz, hby⟩ := info5z
  have hs : (⟨xs.toArray⟩ : ByteArray).size = xs.length := by simp [ByteArray.size]
  obtain ⟨v', W', hr, ho, hg, _⟩ := Go.Lib.run_append_own_string (P := Try.prog) W w0.heap.size 27 9 27 5 i Try.underlying27 Try.underlying9 hi hz hsz hby (.slice a n c) zs.length (bv zs) h.1 ⟨xs.toArray⟩ (by rw [hs]; simp only [maxLen]; omega) (by rw [hs]; omega) h.2.1.size
  rw [hs, strCells_bv, ← bv_append] at ho
  obtain ⟨a', c', rfl⟩ := row_val ho
  rw [← h.2.2] at hr
  refine ⟨a', c', W', hr, ⟨?_, grown_ext h.2.1 hg (fun k hk => (row_at h.1 k hk).1), by rw [List.length_append, ← h.2.2]⟩, Nb.of_grown hg h.1⟩
  rw [List.length_append, h.2.2]; exact ho
theorem wpList_append_run2 {w : World} {ops : Array Oper} {rest : List Oper} {o : Oper} {a : Act} {Q : Exit → Act → World → Prop} (hgd : o.guard = none) (s x : Operand) (t t2 : TypeId)
    (ho : o.op = .call { callee := .builtin .append, args := #[s, x], argTypes := #[t, t2] }) (v u v' : Value) (w' : World) (hs : a.eval s = v) (hx : a.eval x = u) (hr : (Builtin.append_ #[t, t2] o.type #[v, u]).run Try.prog w = .ok v' w')
    (hK : wpList Try.prog ops Q rest (a.put o.dst v') w') : wpList Try.prog ops Q (o :: rest) a w := by
  refine wpList_plain hgd fun K hK' => ?_
  unfold Oper.wp
  simp [execOp, ho, resolve, invoke, builtin, hs, hx, hr, Result.andThen]
  exact hK' _ _ hK
def encN (nm : List UInt8) : List UInt8 := UInt8.ofNat nm.length :: nm
def PutPost (w0 W : World) (zs : List UInt8) (e : Ending) (W' : World) : Prop := ∃ a n c, e = .returned (.slice a n c) ∧ Ob w0 W' a n c zs ∧ Nb W W'
attribute [local go_sem] bslice27a bslice27b
attribute [local go_sem ↓] execOp_bslice
set_option maxRecDepth 20000 in
theorem putName_ok (w0 W : World) (a : Option Addr) (n c : Nat) (zs nm : List UInt8) (h : Ob w0 W a n c zs) (hl : zs.length ≤ 500000) (hnm : nm.length ≤ 255) : Calls Try.prog 57 #[.slice a n c, .string ⟨nm.toArray⟩] W (PutPost w0 W (zs ++ encN nm)) := by
  obtain ⟨k, hk⟩ : ∃ k, k = nm.length := ⟨_, rfl⟩
  have hu : bv [UInt8.ofNat nm.length] = [.int .u8 (k : Int)] := by
    unfold bv u8v w8
    rw [← hk, List.map_cons, List.map_nil, UInt8.toNat_ofNat', Nat.mod_eq_of_lt (by omega)]
  obtain ⟨a1, c1, W1, hr1, ho1, hn1⟩ := ob_app h (by omega) [UInt8.ofNat nm.length] (by simp) (by simp) #[.int .u8 (k : Int)] (by rw [hu]) 1 rfl
  obtain ⟨a2, c2, W2, hr2, ho2, hn2⟩ := ob_str ho1 (by simp; omega) nm (by omega)
  have HP : Hid (PutPost w0 W (zs ++ encN nm) (.returned (.slice a2 (n + 1 + k) c2)) W2) := by
    refine ⟨a2, _, c2, rfl, ?_, hn1.trans hn2⟩
    rw [List.append_assoc] at ho2
    rw [hk]
    exact ho2
  obtain ⟨s, hs⟩ : ∃ s : ByteArray, s = ⟨nm.toArray⟩ := ⟨_, rfl⟩
  have hss : s.size = k := by rw [hs, hk]; simp [ByteArray.size]
  rw [← hs] at hr2 ⊢
  rw [← hk] at hr2
  have w1 : IntKind.u8.wrap (k : Int) = (k : Int) := by rw [IntKind.wrap_u8]; omega
  clear hu h ho1 ho2 hs hk hn1 hn2
  go_enter Try.func57, Try.ntmps57
  go_wp2_with (at_builtin; first | refine wpList_append_run rfl _ _ 27 rfl _ _ _ _ rfl rfl hr1 ?_ | refine wpList_append_run2 rfl _ _ 27 9 rfl _ _ _ _ rfl rfl hr2 ?_)
  go_ret
  exact HP.out
end Go.Proofs.Qxb6500787a
