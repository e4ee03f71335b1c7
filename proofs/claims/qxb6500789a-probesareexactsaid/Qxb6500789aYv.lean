import Derived.Test.Qxb6500789aYu
import Derived.StillTailTactics
import Derived.Deep.QuietTactic
import Derived.BigQuiet
import Derived.Deep.RegionHeld
import Derived.Deep.CutRange
import Derived.Laws.ResultCell
import Derived.Laws.Rows
import Derived.DeepKeys
import Derived.DataBytes
import Derived.Laws.StructEq
import Derived.Laws.AppendOwn
import Derived.Laws.MakeOwn
import Derived.Lib.AppendStr
set_option linter.unusedSimpArgs false
set_option linter.unusedVariables false
namespace Go.Proofs.Qxb6500789a
open Go.RowKit Go.Blk
attribute [local go_sem ↓] execOp_load execOp_store execOp_alloc
attribute [local go_sem] Try.ld29 Try.st29 Try.ld3 Try.st3 Try.ld9 Try.st9 Try.ld30 Try.st30 Try.ld34 Try.st34 Try.ld35 Try.st35 Try.ld36 Try.st36 Try.ld37 Try.st37 Try.ld44 Try.st44 Try.ld45 Try.st45 Try.ld54 Try.st54 Try.ld55 Try.st55 Try.ld74 Try.st74 Try.ld80 Try.st80 Try.ld84 Try.st84 Try.ld106 Try.st106 Try.ld107 Try.st107 Try.ld4 Try.st4 Try.ld121 Try.st121 Try.ld2 Try.st2 Try.ld5 Try.st5 Try.ld12 Try.st12 Try.ld21 Try.st21 Try.ld22 Try.st22 Try.ld24 Try.st24 Try.ld26 Try.st26 Try.ld63 Try.st63 Try.ld71 Try.st71 Try.ld103 Try.st103 Try.ld130 Try.st130 Try.ld133 Try.st133 Try.ld140 Try.st140 Try.ld152 Try.st152 Try.ld39 Try.st39 Try.ld32 Try.st32 Try.ld41 Try.st41 Try.ld47 Try.st47 Try.ld57 Try.st57 Try.ld62 Try.st62 Try.ld76 Try.st76 Try.ld82 Try.st82 Try.ld86 Try.st86 Try.ld109 Try.st109 Try.ld115 Try.st115 Try.ld123 Try.st123 Try.ld135 Try.st135 Try.al39 Try.al32 Try.al41 Try.al47 Try.al57 Try.al62 Try.al76 Try.al82 Try.al86 Try.al109 Try.al115 Try.al123 Try.al135
attribute [local go_sem] Answer.length_enc Answer.ok_enc Answer.all_get Answer.all_set Answer.code_get Answer.code_set Answer.n_get Answer.n_set Answer.name_get Answer.name_set Answer.rows_get Answer.rows_set GOp.length_enc GOp.ok_enc GOp.all_get GOp.all_set GOp.kind_get GOp.kind_set GOp.rel_get GOp.rel_set GOp.mask_get GOp.mask_set GOp.t_get GOp.t_set GOp.n_get GOp.n_set GOp.name_get GOp.name_set Store.length_enc Store.ok_enc Store.all_get Store.all_set Store.names_get Store.names_set Store.rels_get Store.rels_set GRel.length_enc GRel.ok_enc GRel.all_get GRel.all_set GRel.arity_get GRel.arity_set GRel.masks_get GRel.masks_set GRel.rows_get GRel.rows_set Row.length_enc Row.ok_enc Row.all_get Row.all_set Row.t_get Row.t_set Row.mark_get Row.mark_set View.length_enc View.ok_enc View.all_get View.all_set View.names_get View.names_set View.rels_get View.rels_set Symtab.length_enc Symtab.ok_enc Symtab.all_get Symtab.all_set Symtab.names_get Symtab.names_set Symtab.table_get Symtab.table_set StoreTuplestore.length_enc StoreTuplestore.ok_enc StoreTuplestore.all_get StoreTuplestore.all_set StoreTuplestore.syms_get StoreTuplestore.syms_set StoreTuplestore.rels_get StoreTuplestore.rels_set StoreTuplestore.syms_names_get StoreTuplestore.syms_names_set StoreTuplestore.syms_table_get StoreTuplestore.syms_table_set Relation.length_enc Relation.ok_enc Relation.all_get Relation.all_set Relation.arity_get Relation.arity_set Relation.slots_get Relation.slots_set Relation.live_get Relation.live_set Relation.idx_get Relation.idx_set Slot.length_enc Slot.ok_enc Slot.all_get Slot.all_set Slot.t_get Slot.t_set Slot.mark_get Slot.mark_set Slot.live_get Slot.live_set RelView.length_enc RelView.ok_enc RelView.all_get RelView.all_set RelView.arity_get RelView.arity_set RelView.rows_get RelView.rows_set RelView.marks_get RelView.marks_set RelView.indexed_get RelView.indexed_set Index.length_enc Index.ok_enc Index.all_get Index.all_set Index.mask_get Index.mask_set Index.heads_get Index.heads_set Index.next_get Index.next_set
attribute [local go_sem] size_put size_ext blk_put free_put blk_alloc free_alloc blk_drew free_drew blk_ext free_ext lookOr_some putOr_some segAt_some cellAt_some storeIn_some put_put put_alloc_new length_arr ok_arr_u8 ok_arr_u32 ok_arr_u64 ok_arr_i64 ok_arr_sl cellsV_agg cellsV_int cellsV_bool cellsV_string cellsV_pointer cellsV_slice cellsV_sl ok_int ok_bool ok_string ok_pointer ok_slice ok_sl toList_arr seg_arr set_arr nth_splice nth_splice0 seg_splice seg_splice0 splice_splice splice_splice0 length_splice_if
attribute [local go_sem ↓] execOp_box
attribute [local go_sem] box_run nth_arr_u8 put_arr_u8 blk_drewN free_drewN put_drewN blk_raw free_raw
/-- The model's relation: three cells. -/
def mrE (ar : Int) (ka : Option Addr) (kn kc : Nat) (wa : Option Addr) (wn wc : Nat) : List Value := [.int .i64 ar, .slice ka kn kc, .slice wa wn wc]
theorem mr_len (ar : Int) (ka : Option Addr) (kn kc : Nat) (wa : Option Addr) (wn wc : Nat) : (mrE ar ka kn kc wa wn wc).length = 3 := rfl
theorem mr_ok (ar : Int) (ka : Option Addr) (kn kc : Nat) (wa : Option Addr) (wn wc : Nat) : okCells 3 (mrE ar ka kn kc wa wn wc) = true := rfl
theorem mr_n0 (ar : Int) (ka : Option Addr) (kn kc : Nat) (wa : Option Addr) (wn wc : Nat) : nth (mrE ar ka kn kc wa wn wc) 0 = some (.int .i64 ar) := rfl
theorem mr_n1 (ar : Int) (ka : Option Addr) (kn kc : Nat) (wa : Option Addr) (wn wc : Nat) : nth (mrE ar ka kn kc wa wn wc) 1 = some (.slice ka kn kc) := rfl
theorem mr_n2 (ar : Int) (ka : Option Addr) (kn kc : Nat) (wa : Option Addr) (wn wc : Nat) : nth (mrE ar ka kn kc wa wn wc) 2 = some (.slice wa wn wc) := rfl
theorem mr_s1 (ar : Int) (ka : Option Addr) (kn kc : Nat) (wa : Option Addr) (wn wc : Nat) (a : Option Addr) (n c : Nat) : splice (mrE ar ka kn kc wa wn wc) 1 [.slice a n c] = mrE ar a n c wa wn wc := rfl
theorem mr_s2 (ar : Int) (ka : Option Addr) (kn kc : Nat) (wa : Option Addr) (wn wc : Nat) (a : Option Addr) (n c : Nat) : splice (mrE ar ka kn kc wa wn wc) 2 [.slice a n c] = mrE ar ka kn kc a n c := rfl
theorem mr_all (ar : Int) (ka : Option Addr) (kn kc : Nat) (wa : Option Addr) (wn wc : Nat) : seg (mrE ar ka kn kc wa wn wc) 0 3 = mrE ar ka kn kc wa wn wc := rfl
structure MrD where
  ar : Int
  ka : Option Addr
  kn : Nat
  kc : Nat
  wa : Option Addr
  wn : Nat
  wc : Nat
def MrD.enc (d : MrD) : List Value := mrE d.ar d.ka d.kn d.kc d.wa d.wn d.wc
theorem MrD.len (d : MrD) : d.enc.length = 3 := rfl
theorem MrD.one (d : MrD) : d.enc.all (fun v => v.oneCell') = true := rfl
def encW (r : Tup × Int) : List Value := Row.enc ⟨r.1, r.2⟩
theorem encW_len (r : Tup × Int) : (encW r).length = 5 := Row.length_enc _
theorem encW_one (r : Tup × Int) : (encW r).all (fun v => v.oneCell') = true := Row.one_enc _
/-- The masks that the model tells. -/
def mk0 (s : RelS) : List Nat := s.M.filter (fun m => decide (m ≠ 0))
structure MrOk (B : Nat) (O : Own) (W : World) (i : Nat) (d : MrD) (s : RelS) : Prop where
  ar : d.ar = (s.ar : Int)
  mks : RowL B O (.cl (3 + 2 * i)) W 36 1 (.slice d.ka d.kn d.kc) (mk0 s).length ((mk0 s).flatMap encK)
  rows : RowL B O (.cl (4 + 2 * i)) W 62 5 (.slice d.wa d.wn d.wc) (rowsOf s.L).length ((rowsOf s.L).flatMap encW)
/-- The model in memory. -/
structure MIn (B : Nat) (O : Own) (W : World) (bm : Nat) (sm : StS) (na : Option Addr) (nn nc : Nat) (ra : Option Addr) (rn rc : Nat) (R : List MrD) : Prop where
  base : B ≤ W.heap.size
  cell : blk W bm = some (vE na nn nc ra rn rc)
  fre : free W bm = true
  own : O bm = .cl 0
  nms : RowL B O (.cl 1) W 9 1 (.slice na nn nc) sm.names.length (sm.names.flatMap encS)
  rls : RowL B O (.cl 2) W 57 3 (.slice ra rn rc) R.length (R.flatMap MrD.enc)
  len : R.length = sm.rels.length
  ok : ∀ (i : Nat) (d : MrD) (s : RelS), R[i]? = some d → sm.rels[i]? = some s → MrOk B O W i d s
def MAt (B : Nat) (O : Own) (W : World) (bm : Nat) (sm : StS) : Prop := ∃ na nn nc ra rn rc R, MIn B O W bm sm na nn nc ra rn rc R
def isM (l : Lab) : Prop := ∃ n, l = .cl n
theorem isM_cl (n : Nat) : isM (.cl n) := ⟨n, rfl⟩
theorem MrOk.keep {B : Nat} {O O' : Own} {W W' : World} {i : Nat} {d : MrD} {s : RelS} (h : MrOk B O W i d s) (hw : ∀ k, k < W.heap.size → (O k = .cl (3 + 2 * i) ∨ O k = .cl (4 + 2 * i)) → W'.heap[k]? = W.heap[k]? ∧ O' k = O k) : MrOk B O' W' i d s :=
  ⟨h.ar, h.mks.keep (fun k hk ho => hw k hk (.inl ho)), h.rows.keep (fun k hk ho => hw k hk (.inr ho))⟩
theorem MAt.keep {B : Nat} {O O' : Own} {W W' : World} {bm : Nat} {sm : StS} (h : MAt B O W bm sm) (hsz : W.heap.size ≤ W'.heap.size) (hw : ∀ k, k < W.heap.size → isM (O k) → W'.heap[k]? = W.heap[k]? ∧ O' k = O k) : MAt B O' W' bm sm := by
  obtain ⟨na, nn, nc, ra, rn, rc, R, h⟩ := h
  have hm := hw bm (blk_lt h.cell) (by rw [h.own]; exact isM_cl 0)
  exact ⟨na, nn, nc, ra, rn, rc, R, Nat.le_trans h.base hsz, (blk_of_heap hm.1).trans h.cell, (free_of_heap hm.1).trans h.fre, hm.2.trans h.own, h.nms.keep (fun k hk ho => hw k hk (by rw [ho]; exact isM_cl 1)), h.rls.keep (fun k hk ho => hw k hk (by rw [ho]; exact isM_cl 2)), h.len, fun i d s hd hs => (h.ok i d s hd hs).keep (fun k hk ho => hw k hk (by rcases ho with e | e <;> rw [e] <;> exact isM_cl _))⟩
theorem MAt.ext {B : Nat} {O : Own} {W W' : World} {bm : Nat} {sm : StS} (h : MAt B O W bm sm) (he : W.Extends W') : MAt B O W' bm sm := h.keep he.size (fun k hk _ => ⟨he.block k hk, rfl⟩)
theorem MAt.relab {B : Nat} {O O' : Own} {W : World} {bm : Nat} {sm : StS} (h : MAt B O W bm sm) (hk : ∀ k, k < W.heap.size → O' k = O k) : MAt B O' W bm sm := h.keep (Nat.le_refl _) (fun k hk' _ => ⟨rfl, hk k hk'⟩)
theorem MAt.frS {B : Nat} {O O' : Own} {W W' : World} {bm : Nat} {sm : StS} (h : MAt B O W bm sm) (hf : FrS O W O' W') : MAt B O' W' bm sm := h.keep hf.size (fun k hk hm => by
  obtain ⟨n, e⟩ := hm
  have := hf.keep k hk (by rw [e]; exact not_cl n)
  exact ⟨this.2, this.1⟩)
theorem StAt.frM {B : Nat} {O O' : Own} {W W' : World} {bs : Nat} {st : StS} (h : StAt B O W bs st) (hf : Fr isM O W O' W') : StAt B O' W' bs st := h.fr hf (fun l hl hm => by obtain ⟨n, e⟩ := hm; rw [e] at hl; exact not_cl n hl)
/-- What a call on the model leaves: the model with sm', all else as it was. -/
def MOut (B : Nat) (O : Own) (W : World) (bm : Nat) (sm' : StS) (W' : World) : Prop := ∃ O', Fr isM O W O' W' ∧ MAt B O' W' bm sm'
theorem mout_same {B : Nat} {O : Own} {W W' : World} {bm : Nat} {sm : StS} (h : MAt B O W bm sm) (he : W.Extends W') : MOut B O W bm sm W' := ⟨O, Fr.of_extends he, h.ext he⟩
/-- Relation n of the model, opened. -/
structure Opm (W : World) (bm : Nat) (sm : StS) (n : Nat) (s : RelS) (na : Option Addr) (nn nc gr rn rc : Nat) (Cr : List Value) (ka : Option Addr) (kn kc : Nat) (wa : Option Addr) (wn wc : Nat) : Prop where
  hb : blk W bm = some (vE na nn nc (some ⟨gr, 0, none⟩) rn rc)
  hnn : nn = sm.names.length
  hrn : rn = sm.rels.length
  hn : n < rn
  bc : blk W gr = some Cr
  len : n * 3 + 3 ≤ Cr.length
  c0 : nth Cr (n * 3) = some (.int .i64 (s.ar : Int))
  c1 : nth Cr (n * 3 + 1) = some (.slice ka kn kc)
  c2 : nth Cr (n * 3 + 2) = some (.slice wa wn wc)
  mks : Rw encK 1 W ka kn (mk0 s)
  rows : Rw encW 5 W wa wn (rowsOf s.L)
theorem Opm.ext {W W' : World} {bm : Nat} {sm : StS} {n : Nat} {s : RelS} {na : Option Addr} {nn nc gr rn rc : Nat} {Cr : List Value} {ka : Option Addr} {kn kc : Nat} {wa : Option Addr} {wn wc : Nat} (h : Opm W bm sm n s na nn nc gr rn rc Cr ka kn kc wa wn wc) (he : W.Extends W') : Opm W' bm sm n s na nn nc gr rn rc Cr ka kn kc wa wn wc :=
  ⟨(he.blk (blk_lt h.hb)).trans h.hb, h.hnn, h.hrn, h.hn, (he.blk (blk_lt h.bc)).trans h.bc, h.len, h.c0, h.c1, h.c2, h.mks.ext' he, h.rows.ext' he⟩
theorem mat_bad {B : Nat} {O : Own} {W : World} {bm : Nat} {sm : StS} (h : MAt B O W bm sm) : ∃ na nn nc ra rn rc, blk W bm = some (vE na nn nc ra rn rc) ∧ free W bm = true ∧ rn = sm.rels.length ∧ nn = sm.names.length ∧ Rw encS 1 W na nn sm.names := by
  obtain ⟨na, nn, nc, ra, rn, rc, R, h⟩ := h
  exact ⟨na, nn, nc, ra, rn, rc, h.cell, h.fre, by rw [← h.len]; exact ((h.rls.rw MrD.len).1.1).symm, ((h.nms.rw encS_len).1.1).symm, (h.nms.rw encS_len).1⟩
def relM (n : Nat) (l : Lab) : Prop := l = .cl 2 ∨ l = .cl (3 + 2 * n) ∨ l = .cl (4 + 2 * n)
/-- Relation n of the model, opened, and how it is shut again. -/
theorem mat_open {B : Nat} {O : Own} {W : World} {bm : Nat} {sm : StS} (h : MAt B O W bm sm) {n : Nat} {s : RelS} (hs : sm.rels[n]? = some s) :
    ∃ na nn nc gr rn rc Cr ka kn kc wa wn wc, Opm W bm sm n s na nn nc gr rn rc Cr ka kn kc wa wn wc ∧ B ≤ W.heap.size ∧ O gr = .cl 2 ∧ W.heap[gr]? = some (.cells Cr.toArray 57 (0, 0)) ∧ MrOk B O W n ⟨(s.ar : Int), ka, kn, kc, wa, wn, wc⟩ s ∧
      ∀ O' W' Cr' d' s', Fr (relM n) O W O' W' → W'.heap[gr]? = some (.cells Cr'.toArray 57 (0, 0)) → Cr'.length = Cr.length → (∀ p q, (p + q ≤ n * 3 ∨ n * 3 + 3 ≤ p) → seg Cr' p q = seg Cr p q) → seg Cr' (n * 3) 3 = MrD.enc d' → MrOk B O' W' n d' s' → MAt B O' W' bm ⟨sm.names, sm.rels.set n s'⟩ := by
  obtain ⟨na, nn, nc, ra, rn, rc, R, h⟩ := h
  have hi : n < sm.rels.length := (List.getElem?_eq_some_iff.1 hs).1
  obtain ⟨d, hd⟩ : ∃ d, R[n]? = some d := ⟨_, List.getElem?_eq_getElem (by rw [h.len]; exact hi)⟩
  have hRn : R.length = rn := (h.rls.rw MrD.len).1.1
  have hlen := h.len
  obtain ⟨gr, Cr, e1, e2, e3, e4, e5, e6, e7, e8⟩ := h.rls.openT MrD.len (by omega)
  subst e1
  have hok := h.ok n d s hd hs
  have hle : (n + 1) * 3 ≤ rn * 3 := Nat.mul_le_mul_right _ (by omega)
  have hsg := e7 n d hd
  obtain ⟨dar, ka, kn, kc, wa, wn, wc⟩ := d
  have har : dar = (s.ar : Int) := hok.ar
  subst har
  refine ⟨na, nn, nc, gr, rn, rc, Cr, ka, kn, kc, wa, wn, wc, ⟨h.cell, ((h.nms.rw encS_len).1.1).symm, by omega, by omega, blk_mk e2, by omega, nth_in (j := 0) hsg rfl (by omega), nth_in (j := 1) hsg rfl (by omega), nth_in (j := 2) hsg rfl (by omega), (hok.mks.rw encK_len).1, (hok.rows.rw encW_len).1⟩, h.base, e4, e2, hok, fun O' W' Cr' d' s' hF hty hCl hCs hsg' hok' => ?_⟩
  have hn : ∀ m, m ≠ 2 → m ≠ 3 + 2 * n → m ≠ 4 + 2 * n → ¬ relM n (.cl m) := fun m h1 h2 h3 hr => by
    rcases hr with e | e | e <;> injection e with e <;> contradiction
  have hog : O' gr = .cl 2 := (hF.keep gr (Array.getElem?_eq_some_iff.1 e2).1).trans e4
  refine ⟨na, nn, nc, some ⟨gr, 0, none⟩, rn, rc, R.set n d', Nat.le_trans h.base hF.size, hF.blk h.cell (by rw [h.own]; exact hn 0 (by omega) (by omega) (by omega)), hF.free h.cell h.fre (by rw [h.own]; exact hn 0 (by omega) (by omega) (by omega)), (hF.keep bm (blk_lt h.cell)).trans h.own, h.nms.fr hF (hn 1 (by omega) (by omega) (by omega)), ?_, by simp [h.len], ?_⟩
  · refine e8 O' W' Cr' _ hty hCl (by simp) (fun j x hx => ?_) hog
    rw [List.getElem?_set] at hx
    by_cases hij : n = j
    · subst hij
      rw [if_pos rfl, if_pos (by omega)] at hx
      rw [hsg', ← Option.some.inj hx]
    · rw [if_neg hij] at hx
      rw [hCs (j * 3) 3 (by omega)]
      exact e7 j x hx
  · intro j d2 s2 hd2 hs2
    rw [List.getElem?_set] at hd2 hs2
    by_cases hij : n = j
    · subst hij
      rw [if_pos rfl, if_pos (by omega)] at hd2
      rw [if_pos rfl, if_pos hi] at hs2
      rw [← Option.some.inj hd2, ← Option.some.inj hs2]
      exact hok'
    · rw [if_neg hij] at hd2 hs2
      exact (h.ok j d2 s2 hd2 hs2).keep (fun k hk ho => by
        have : ¬ relM n (O k) := by rcases ho with e | e <;> rw [e] <;> exact hn _ (by omega) (by omega) (by omega)
        exact ⟨hF.block k hk this, hF.keep k hk⟩)
theorem heap_putN {w : World} {g : Nat} {C D : List Value} {ty : TypeId} (h : w.heap[g]? = some (.cells C.toArray ty (0, 0))) : (put w g D).heap[g]? = some (.cells D.toArray ty (0, 0)) := by
  rw [heap_put, if_pos rfl, h]; rfl
theorem relM_isM {n : Nat} {l : Lab} (h : relM n l) : isM l := by
  rcases h with e | e | e <;> rw [e] <;> exact isM_cl _
/-- Both ways that relation n is changed: its rows, its masks. -/
theorem mat_put {B : Nat} {O : Own} {W : World} {bm : Nat} {sm : StS} (h : MAt B O W bm sm) {n : Nat} {s : RelS} (hs : sm.rels[n]? = some s) :
    ∃ na nn nc gr rn rc Cr ka kn kc wa wn wc, Opm W bm sm n s na nn nc gr rn rc Cr ka kn kc wa wn wc ∧ B ≤ W.heap.size ∧ MrOk B O W n ⟨(s.ar : Int), ka, kn, kc, wa, wn, wc⟩ s ∧
      (∀ O1 W1 wa' wn' wc' s', Fr (fun l => l = .cl (4 + 2 * n)) O W O1 W1 → RowL B O1 (.cl (4 + 2 * n)) W1 62 5 (.slice wa' wn' wc') (rowsOf s'.L).length ((rowsOf s'.L).flatMap encW) → s'.ar = s.ar → mk0 s' = mk0 s → blk W1 bm = some (vE na nn nc (some ⟨gr, 0, none⟩) rn rc) ∧ blk W1 gr = some Cr ∧ free W1 gr = true ∧ MOut B O W bm ⟨sm.names, sm.rels.set n s'⟩ (put W1 gr (splice Cr (n * 3 + 2) [.slice wa' wn' wc']))) ∧
      (∀ O1 W1 ka' kn' kc' s', Fr (fun l => l = .cl (3 + 2 * n)) O W O1 W1 → RowL B O1 (.cl (3 + 2 * n)) W1 36 1 (.slice ka' kn' kc') (mk0 s').length ((mk0 s').flatMap encK) → s'.ar = s.ar → rowsOf s'.L = rowsOf s.L → blk W1 bm = some (vE na nn nc (some ⟨gr, 0, none⟩) rn rc) ∧ blk W1 gr = some Cr ∧ free W1 gr = true ∧ MOut B O W bm ⟨sm.names, sm.rels.set n s'⟩ (put W1 gr (splice Cr (n * 3 + 1) [.slice ka' kn' kc']))) ∧
      (∀ D, D.length = Cr.length → (∀ p q, (p + q ≤ n * 3 ∨ n * 3 + 3 ≤ p) → seg D p q = seg Cr p q) → True) := by
  obtain ⟨na, nn, nc, gr, rn, rc, Cr, ka, kn, kc, wa, wn, wc, ho, hB, hog, hty, hok, hshut⟩ := mat_open h hs
  have hob : O bm = .cl 0 := by obtain ⟨_, _, _, _, _, _, _, h⟩ := h; exact h.own
  have hsg : seg Cr (n * 3) 3 = mrE (s.ar : Int) ka kn kc wa wn wc := by
    apply List.ext_getElem?
    intro r
    rw [seg_nth]
    by_cases hr : r < 3
    · rw [if_pos hr]
      have h : r = 0 ∨ r = 1 ∨ r = 2 := by omega
      rcases h with rfl | rfl | rfl
      · exact ho.c0
      · exact ho.c1
      · exact ho.c2
    · rw [if_neg hr, List.getElem?_eq_none (by show 3 ≤ r; omega)]
  have hlt := ho.len
  have key : ∀ (l : Lab) (O1 : Own) (W1 : World) (k : Nat) (v : Value) (d' : MrD) (s' : RelS), (l = .cl (3 + 2 * n) ∨ l = .cl (4 + 2 * n)) → Fr (fun x => x = l) O W O1 W1 → k < 3 → splice (mrE (s.ar : Int) ka kn kc wa wn wc) k [v] = MrD.enc d' → MrOk B O1 W1 n d' s' → blk W1 bm = some (vE na nn nc (some ⟨gr, 0, none⟩) rn rc) ∧ blk W1 gr = some Cr ∧ free W1 gr = true ∧ MOut B O W bm ⟨sm.names, sm.rels.set n s'⟩ (put W1 gr (splice Cr (n * 3 + k) [v])) := by
    intro l O1 W1 k v d' s' hl hf hk hv hok'
    have hng : ¬ (O gr = l) := by rw [hog]; rcases hl with e | e <;> rw [e] <;> intro e <;> injection e with e <;> omega
    have hnb : ¬ (O bm = l) := by rw [hob]; rcases hl with e | e <;> rw [e] <;> intro e <;> injection e with e <;> omega
    have ht1 : W1.heap[gr]? = some (.cells Cr.toArray 57 (0, 0)) := (hf.block gr (Array.getElem?_eq_some_iff.1 hty).1 hng).trans hty
    have ho1 : O1 gr = .cl 2 := (hf.keep gr (Array.getElem?_eq_some_iff.1 hty).1).trans hog
    refine ⟨hf.blk ho.hb hnb, blk_mk ht1, free_mk ht1, ?_⟩
    have hF : Fr (relM n) O W O1 (put W1 gr (splice Cr (n * 3 + k) [v])) := (hf.mono (fun x e => by rw [e]; exact .inr hl)).put (by rw [ho1]; exact .inl rfl) _
    refine ⟨O1, hF.mono (fun x e => relM_isM e), hshut O1 _ _ d' s' hF (heap_putN ht1) (length_splice1 (by omega)) (fun p q hpq => seg_splice_off (by omega) (by omega)) ?_ ?_⟩
    · rw [seg_splice_in hsg (by omega) hk]; exact hv
    · exact hok'.keep (fun x hx hxo => ⟨by rw [heap_put, if_neg (fun e => by rw [e, ho1] at hxo; rcases hxo with e | e <;> injection e with e <;> omega)], rfl⟩)
  refine ⟨na, nn, nc, gr, rn, rc, Cr, ka, kn, kc, wa, wn, wc, ho, hB, hok, fun O1 W1 wa' wn' wc' s' hf hrow har hmk => ?_, fun O1 W1 ka' kn' kc' s' hf hrow har hrs => ?_, fun _ _ _ => trivial⟩
  · refine key (.cl (4 + 2 * n)) O1 W1 2 _ ⟨(s.ar : Int), ka, kn, kc, wa', wn', wc'⟩ s' (.inr rfl) hf (by omega) rfl ⟨by rw [har], ?_, hrow⟩
    rw [hmk]
    exact hok.mks.fr hf (by intro e; injection e with e; omega)
  · refine key (.cl (3 + 2 * n)) O1 W1 1 _ ⟨(s.ar : Int), ka', kn', kc', wa, wn, wc⟩ s' (.inl rfl) hf (by omega) rfl ⟨by rw [har], hrow, ?_⟩
    rw [hrs]
    exact hok.rows.fr hf (by intro e; injection e with e; omega)
end Go.Proofs.Qxb6500789a
