
import Derived.Test.Qxb6500787aGreatTj
import Derived.StillTailTactics
import Derived.Deep.QuietTactic
import Derived.BigQuiet
import Derived.Deep.RegionHeld
import Derived.Deep.CutRange
import Derived.Laws.ResultCell
import Derived.Laws.Rows
import Derived.DeepKeys
import Derived.DataBytes
import Derived.Laws.StructEq
import Derived.Laws.AppendOwn
import Derived.Laws.MakeOwn
import Derived.Lib.AppendStr
set_option linter.unusedSimpArgs false
set_option linter.unusedVariables false
namespace Go.Proofs.Qxb6500787aGreat
open Go.RowKit Go.Blk
attribute [local go_sem ↓] execOp_load execOp_store execOp_alloc
attribute [local go_sem] Tryz.ld26 Tryz.st26 Tryz.ld27 Tryz.st27 Tryz.ld28 Tryz.st28 Tryz.ld3 Tryz.st3 Tryz.ld29 Tryz.st29 Tryz.ld44 Tryz.st44 Tryz.ld4 Tryz.st4 Tryz.ld50 Tryz.st50 Tryz.ld32 Tryz.st32 Tryz.ld49 Tryz.st49 Tryz.ld68 Tryz.st68 Tryz.ld9 Tryz.st9 Tryz.ld40 Tryz.st40 Tryz.ld138 Tryz.st138 Tryz.ld139 Tryz.st139 Tryz.ld146 Tryz.st146 Tryz.ld183 Tryz.st183 Tryz.ld184 Tryz.st184 Tryz.ld192 Tryz.st192 Tryz.ld195 Tryz.st195 Tryz.ld217 Tryz.st217 Tryz.ld159 Tryz.st159 Tryz.ld142 Tryz.st142 Tryz.ld2 Tryz.st2 Tryz.ld5 Tryz.st5 Tryz.ld12 Tryz.st12 Tryz.ld21 Tryz.st21 Tryz.ld22 Tryz.st22 Tryz.ld24 Tryz.st24 Tryz.ld58 Tryz.st58 Tryz.ld97 Tryz.st97 Tryz.ld101 Tryz.st101 Tryz.ld116 Tryz.st116 Tryz.ld121 Tryz.st121 Tryz.ld135 Tryz.st135 Tryz.ld136 Tryz.st136 Tryz.ld143 Tryz.st143 Tryz.ld148 Tryz.st148 Tryz.ld154 Tryz.st154 Tryz.ld173 Tryz.st173 Tryz.ld187 Tryz.st187 Tryz.ld222 Tryz.st222 Tryz.ld241 Tryz.st241 Tryz.ld248 Tryz.st248 Tryz.ld268 Tryz.st268 Tryz.ld272 Tryz.st272 Tryz.ld153 Tryz.st153 Tryz.ld255 Tryz.st255 Tryz.ld256 Tryz.st256 Tryz.ld129 Tryz.st129 Tryz.ld152 Tryz.st152 Tryz.ld31 Tryz.st31 Tryz.ld46 Tryz.st46 Tryz.ld52 Tryz.st52 Tryz.ld54 Tryz.st54 Tryz.ld60 Tryz.st60 Tryz.ld70 Tryz.st70 Tryz.ld74 Tryz.st74 Tryz.ld93 Tryz.st93 Tryz.ld141 Tryz.st141 Tryz.ld151 Tryz.st151 Tryz.ld170 Tryz.st170 Tryz.ld186 Tryz.st186 Tryz.ld189 Tryz.st189 Tryz.ld194 Tryz.st194 Tryz.ld197 Tryz.st197 Tryz.ld219 Tryz.st219 Tryz.ld224 Tryz.st224 Tryz.ld230 Tryz.st230 Tryz.ld235 Tryz.st235 Tryz.ld243 Tryz.st243 Tryz.ld247 Tryz.st247 Tryz.ld252 Tryz.st252 Tryz.ld258 Tryz.st258 Tryz.al153 Tryz.al255 Tryz.al256 Tryz.al129 Tryz.al152 Tryz.al31 Tryz.al46 Tryz.al52 Tryz.al54 Tryz.al60 Tryz.al70 Tryz.al74 Tryz.al93 Tryz.al141 Tryz.al151 Tryz.al170 Tryz.al186 Tryz.al189 Tryz.al194 Tryz.al197 Tryz.al219 Tryz.al224 Tryz.al230 Tryz.al235 Tryz.al243 Tryz.al247 Tryz.al252 Tryz.al258
attribute [local go_sem] Request.length_enc Request.ok_enc Request.all_get Request.all_set Request.kind_get Request.kind_set Request.blob_get Request.blob_set Request.items_get Request.items_set Request.pred_get Request.pred_set Request.slots_get Request.slots_set Trace.length_enc Trace.ok_enc Trace.all_get Trace.all_set Trace.op_get Trace.op_set Trace.calls_get Trace.calls_set Item.length_enc Item.ok_enc Item.all_get Item.all_set Item.del_get Item.del_set Item.pred_get Item.pred_set Item.args_get Item.args_set Reply.length_enc Reply.ok_enc Reply.all_get Reply.all_set Reply.code_get Reply.code_set Reply.kind_get Reply.kind_set Reply.index_get Reply.index_set Reply.yes_get Reply.yes_set Reply.preds_get Reply.preds_set Reply.rules_get Reply.rules_set Reply.arity_get Reply.arity_set Reply.rows_get Reply.rows_set Reply.fact_get Reply.fact_set Reply.fact_del_get Reply.fact_del_set Reply.fact_pred_get Reply.fact_pred_set Reply.fact_args_get Reply.fact_args_set GEntry.length_enc GEntry.ok_enc GEntry.all_get GEntry.all_set GEntry.seq_get GEntry.seq_set GEntry.kind_get GEntry.kind_set GEntry.code_get GEntry.code_set GOp.length_enc GOp.ok_enc GOp.all_get GOp.all_set GOp.kind_get GOp.kind_set GOp.raw_get GOp.raw_set Reader.length_enc Reader.ok_enc Reader.all_get Reader.all_set Reader.buf_get Reader.buf_set Reader.at__get Reader.at__set Slot.length_enc Slot.ok_enc Slot.all_get Slot.all_set Slot.bound_get Slot.bound_set Slot.name_get Slot.name_set Session.length_enc Session.ok_enc Session.all_get Session.all_set Session.svc_get Session.svc_set Session.buf_get Session.buf_set Session.closed_get Session.closed_set GProgram.length_enc GProgram.ok_enc GProgram.all_get GProgram.all_set GProgram.pool_get GProgram.pool_set GProgram.preds_get GProgram.preds_set GProgram.rules_get GProgram.rules_set GProgram.strata_get GProgram.strata_set PredInfo.length_enc PredInfo.ok_enc PredInfo.all_get PredInfo.all_set PredInfo.arity_get PredInfo.arity_set PredInfo.base_get PredInfo.base_set PredInfo.stratum_get PredInfo.stratum_set Change.length_enc Change.ok_enc Change.all_get Change.all_set Change.del_get Change.del_set Change.pred_get Change.pred_set Change.t_get Change.t_set Store.length_enc Store.ok_enc Store.all_get Store.all_set Store.names_get Store.names_set Store.arity_get Store.arity_set Store.rows_get Store.rows_set Src.length_enc Src.ok_enc Src.all_get Src.all_set Src.b_get Src.b_set Src.at__get Src.at__set Atom.length_enc Atom.ok_enc Atom.all_get Atom.all_set Atom.pred_get Atom.pred_set Atom.args_get Atom.args_set GRule.length_enc GRule.ok_enc GRule.all_get GRule.all_set GRule.head_get GRule.head_set GRule.body_get GRule.body_set GRule.head_pred_get GRule.head_pred_set GRule.head_args_get GRule.head_args_set Cert.length_enc Cert.ok_enc Cert.all_get Cert.all_set Cert.names_get Cert.names_set Cert.nodes_get Cert.nodes_set Fact.length_enc Fact.ok_enc Fact.all_get Fact.all_set Fact.pred_get Fact.pred_set Fact.t_get Fact.t_set Literal.length_enc Literal.ok_enc Literal.all_get Literal.all_set Literal.neg_get Literal.neg_set Literal.atom_get Literal.atom_set Literal.atom_pred_get Literal.atom_pred_set Literal.atom_args_get Literal.atom_args_set Engine.length_enc Engine.ok_enc Engine.all_get Engine.all_set Engine.prog_get Engine.prog_set Engine.st_get Engine.st_set SrcCertm.length_enc SrcCertm.ok_enc SrcCertm.all_get SrcCertm.all_set SrcCertm.b_get SrcCertm.b_set SrcCertm.at__get SrcCertm.at__set GNode.length_enc GNode.ok_enc GNode.all_get GNode.all_set GNode.rule_get GNode.rule_set GNode.pred_get GNode.pred_set GNode.vals_get GNode.vals_set GNode.refs_get GNode.refs_set Term.length_enc Term.ok_enc Term.all_get Term.all_set Term.var_get Term.var_set Term.n_get Term.n_set Env.length_enc Env.ok_enc Env.all_get Env.all_set Env.val_get Env.val_set Env.set_get Env.set_set
attribute [local go_sem] size_put size_ext blk_put free_put blk_alloc free_alloc blk_drew free_drew blk_ext free_ext lookOr_some putOr_some segAt_some cellAt_some storeIn_some put_put put_alloc_new length_arr ok_arr_u8 ok_arr_u32 ok_arr_u64 ok_arr_i64 ok_arr_sl cellsV_agg cellsV_int cellsV_bool cellsV_string cellsV_pointer cellsV_slice cellsV_sl ok_int ok_bool ok_string ok_pointer ok_slice ok_sl toList_arr seg_arr set_arr nth_splice nth_splice0 seg_splice seg_splice0 splice_splice splice_splice0 length_splice_if
attribute [local go_sem ↓] execOp_box
attribute [local go_sem] box_run nth_arr_u8 put_arr_u8 blk_drewN free_drewN put_drewN blk_raw free_raw
/-- The engine's two cells. -/
def engE (bi bst : Nat) : List Value := Engine.enc ⟨some ⟨bi, 0, none⟩, some ⟨bst, 0, none⟩⟩
theorem eng0 (bi bst : Nat) : nth (engE bi bst) 0 = some (.pointer (some ⟨bi, 0, none⟩)) := rfl
theorem eng1 (bi bst : Nat) : nth (engE bi bst) 1 = some (.pointer (some ⟨bst, 0, none⟩)) := rfl
theorem eng_len (bi bst : Nat) : (engE bi bst).length = 2 := rfl
/-- The base relations. -/
def basR (p : PP) (R : List (List Tup)) : List (List Tup) := (List.range p.preds.length).map fun q => if (pI p q).base then rowsAt R q else []
theorem basR_len (p : PP) (R : List (List Tup)) : (basR p R).length = p.preds.length := by simp [basR]
theorem basR_at (p : PP) (R : List (List Tup)) {q : Nat} (h : q < p.preds.length) : (basR p R)[q]? = some (if (pI p q).base then rowsAt R q else []) := by
  unfold basR
  rw [List.getElem?_map, List.getElem?_range h]; rfl
theorem basR_inv {p : PP} {R : List (List Tup)} (h : RInv p R) : RInv p (basR p R) := by
  refine ⟨fun L hL => ?_, basR_len p R⟩
  obtain ⟨q, hq⟩ := List.mem_iff_getElem?.1 hL
  have hq' : q < p.preds.length := by rw [← basR_len p R]; exact (List.getElem?_eq_some_iff.1 hq).1
  rw [basR_at p R hq'] at hq
  obtain rfl := Option.some.inj hq
  by_cases hb : (pI p q).base = true
  · rw [if_pos hb]; exact h.1.at q
  · rw [if_neg hb]; exact outOk_nil
theorem cpR_skip {B : List (List Tup)} {i : Nat} (h : B[i]? = some []) : cpR B (i + 1) = cpR B i := by
  have hi : i < B.length := (List.getElem?_eq_some_iff.1 h).1
  rw [← cpR_set h]
  apply List.ext_getElem?
  intro k
  by_cases hk : k = i
  · subst hk
    rw [List.getElem?_set_self (by rw [cpR_len B (by omega)]; exact hi)]
    unfold cpR
    rw [List.getElem?_append_right (by rw [List.length_take]; omega), List.length_take, List.getElem?_replicate, if_pos (by omega)]
  · rw [List.getElem?_set_ne (fun e => hk e.symm)]
theorem cap_of {R : List (List Tup)} (h : overB R = false) : ∀ L ∈ R, L.length ≤ 512 := fun L hL => by
  unfold overB at h
  rw [List.any_eq_false] at h
  have := h L hL
  simp at this; omega
def bsI (W : World) (be n bo : Nat) (B : List (List Tup)) (f : Nat → Value) (V : World) : Prop := f 0 = .pointer (some ⟨be, 0, none⟩) ∧ f 3 = .slice (some ⟨bo, 0, none⟩) n n ∧ ∃ i : Nat, i ≤ n ∧ f 4 = .int .i64 (i : Nat) ∧ Hid (∃ O, RelO W bo (cpR B i) O V)
attribute [local go_sem ↓] execOp_bslice execOp_build execOp_make
attribute [local go_sem] bslice148 make184 eng0 eng1 eng_len
set_option maxRecDepth 100000 in
theorem frame41b (f : Nat → Value) : frameN 41 f = #[f 0, f 1, f 2, f 3, f 4, f 5, f 6, f 7, f 8, f 9, f 10, f 11, f 12, f 13, f 14, f 15, f 16, f 17, f 18, f 19, f 20, f 21, f 22, f 23, f 24, f 25, f 26, f 27, f 28, f 29, f 30, f 31, f 32, f 33, f 34, f 35, f 36, f 37, f 38, f 39, f 40] := by kernel_rfl
set_option maxRecDepth 40000 in
set_option maxHeartbeats 4000000 in
theorem base_any {B : Nat} {O : Own} {W : World} {g be bi bst : Nat} {N : List (List UInt8)} {A : List Int} {R : List (List Tup)} {p : PP} (hE : blk W be = some (engE bi bst)) (hp : ProgC W bi p) (hok : PPok p) (hS : Sto B O W g bst N A R) (hI : RInv p R) (hcap : overB R = false) : Calls Tryz.prog 160 #[.pointer (some ⟨be, 0, none⟩)] W fun e V => ∃ bo O', e = .returned (.slice (some ⟨bo, 0, none⟩) p.preds.length p.preds.length) ∧ RelO W bo (basR p R) O' V := by
  obtain ⟨Q, hQ⟩ : ∃ Q : Ending → World → Prop, Q = fun e V => ∃ bo O', e = .returned (.slice (some ⟨bo, 0, none⟩) p.preds.length p.preds.length) ∧ RelO W bo (basR p R) O' V := ⟨_, rfl⟩
  rw [← hQ]
  have HQ := hid_of hQ
  have HP := hid_of hp
  have HS := hid_of hS
  have HI := hid_of hI
  have HCAP := hid_of (cap_of hcap)
  have HE := hid_of hE
  have h64 := hok.nD
  clear hcap
  obtain ⟨n, hn⟩ : ∃ n, n = p.preds.length := ⟨_, rfl⟩
  rw [← hn] at h64
  have HN := hid_of hn
  have hn100 : n ≤ 100 := by omega
  obtain ⟨Bs, hBs⟩ : ∃ Bs, Bs = basR p R := ⟨_, rfl⟩
  have hBl : Bs.length = n := by rw [hBs, basR_len, hn]
  have HBL := hid_of hBl
  have HBS := hid_of hBs
  obtain ⟨Ce, pa, pc, da, dc, ra, rc, e1, e2, -, e4, -⟩ := hp.cells
  rw [← hn] at e4
  have z1 : 1 < Ce.length := by omega
  clear hQ hp hok hS hI hn hBs hBl
  go_enter Tryz.func160, Tryz.ntmps160
  go_upto_region 3 with fail
  refine wp_world (fun V => W.Extends V ∧ blk V W.heap.size = some (List.replicate n (Value.slice none 0 0)) ∧ free V W.heap.size = true) ⟨extends_alloc (ext_Ext (Ext.refl _)) _, ?_, ?_⟩ ?_
  · rw [blk_alloc, if_pos rfl]; simp
  · unfold free
    rw [heap_alloc, if_pos rfl]; rfl
  rintro V1 ⟨hx1, hb1, hf1⟩
  obtain ⟨bo, ebo⟩ : ∃ bo, bo = W.heap.size := ⟨_, rfl⟩
  rw [← ebo] at hb1 hf1 ⊢
  have HI0 : Hid (∃ O, RelO W bo (cpR Bs 0) O V1) := by
    rw [cpR_zero, HBL.out]
    exact ⟨_, relO_new W n V1 hx1 bo hb1 hf1 (by omega)⟩
  clear hx1 hb1 hf1 ebo e1 e2 e4 z1 hE
  refine wp_loop_f 41 (bsI W be n bo Bs) (fun f _ => n - (intOf (f 4)).toNat) rfl ⟨rfl, rfl, 0, by omega, rfl, HI0⟩ ?_
  clear HI0
  clear Ce pa pc da dc ra rc
  intro F V hrel
  obtain ⟨f0, f3, i, hi, f4, HI1⟩ := hrel
  have H4 := hid_of f4
  rw [frame41b, f0, f3, f4]
  clear f0 f3 f4
  obtain ⟨O1, hO⟩ := HI1.out
  by_cases hin : i < n
  · have hin' : (i : Int) < (n : Int) := by omega
    obtain ⟨Ce, pa, pc, da, dc, ra, rc, e1, e2, -, e4, -, -, -, e8, -⟩ := (HP.out.ext hO.ext).cells
    rw [← HN.out] at e4
    have z1 : 1 < Ce.length := by omega
    have hip : i < p.preds.length := by rw [← HN.out]; exact hin
    obtain ⟨bD, CD, d1, d2, d3, -, d5, -, d7⟩ := pred_at e8 (pI_at hip)
    subst d1
    have d8 : i * 3 + 1 < CD.length := by omega
    have i0 : (0 : Int) ≤ (i : Int) := by omega
    have i2 : ((i : Int)).toNat = i := by omega
    have hbe : blk V be = some (engE bi bst) := (hO.ext.blk (blk_lt HE.out)).trans HE.out
    have hBi := basR_at p R hip
    rw [← HBS.out] at hBi
    obtain ⟨bb, hbb⟩ : ∃ bb, bb = (pI p i).base := ⟨_, rfl⟩
    rw [← hbb] at hBi d5
    clear d7 hbb e8
    cases bb
    · rw [if_neg (by decide)] at hBi
      have HI' : Hid (∃ O, RelO W bo (cpR Bs (i + 1)) O V) := by rw [cpR_skip hBi]; exact ⟨O1, hO⟩
      clear hO HI1 hBi
      go_wp2_with fail
      refine ⟨rfl, rfl, ⟨rfl, rfl, i + 1, by omega, ?_, HI'⟩, ?_⟩
      · show Value.int .i64 _ = _
        go_num
      · show n - (intOf (Value.int .i64 _)).toNat < n - (intOf (F 4)).toNat
        rw [H4.out]
        simp [intOf]; omega
    · rw [if_pos rfl] at hBi
      obtain ⟨L, hL⟩ : ∃ L, R[i]? = some L := ⟨_, List.getElem?_eq_getElem (by rw [HI.out.2]; exact hip)⟩
      rw [rowsAt_some hL] at hBi
      have hLo := HCAP.out L (List.mem_of_getElem? hL)
      have hla := list_any (HS.out.ext hO.ext) hL (by omega) (by rw [HI.out.2, ← HN.out]; omega)
      have HO := hid_of hO
      have HBI := hid_of hBi
      clear hO HI1 hBi hL hLo
      go_wp2_with fail
      refine hla.mono ?_
      rintro en V2 ⟨la, ln, lc, rfl, hout⟩
      obtain ⟨C, O', k1, k2, k3, k4, k5⟩ := HO.out.set (q := i) (by rw [cpR_len _ (by rw [HBL.out]; omega), HBL.out]; exact hin) hout
      rw [cpR_set HBI.out] at k5
      have q2 : i < C.length := by rw [k2, cpR_len _ (by rw [HBL.out]; omega), HBL.out]; exact hin
      have q2' : i + 1 ≤ C.length := by omega
      have HI' : Hid (∃ O, RelO W bo (cpR Bs (i + 1)) O (put V2 bo (splice C i [.slice la ln lc]))) := ⟨O', k5⟩
      clear hla hout k2 k4 k5 HO HBI
      dsimp only
      go_wp2_with fail
      refine ⟨rfl, rfl, ⟨rfl, rfl, i + 1, by omega, ?_, HI'⟩, ?_⟩
      · show Value.int .i64 _ = _
        go_num
      · show n - (intOf (Value.int .i64 _)).toNat < n - (intOf (F 4)).toNat
        rw [H4.out]
        simp [intOf]; omega
  · have hin' : ¬ (i : Int) < (n : Int) := by omega
    have HE' : Hid (Q (.returned (.slice (some ⟨bo, 0, none⟩) n n)) V) := by
      show Q _ _
      rw [HQ.out]
      obtain rfl : i = Bs.length := by rw [HBL.out]; omega
      rw [cpR_all, HBS.out] at hO
      exact ⟨bo, O1, by rw [HN.out], hO⟩
    clear hO HI1
    go_wp2_with fail
    try go_ret
    exact HE'.out
theorem Sto.setRow {B : Nat} {O : Own} {W : World} {g bst : Nat} {N : List (List UInt8)} {A : List Int} {R : List (List Tup)} (h : Sto B O W g bst N A R) {i : Nat} (hi : i < R.length) {a : Option Addr} {n c : Nat} {L : List Tup} (hL : Rw tpl 4 (core O W) a n L) :
    ∃ na nn nc aa an ac br rc Cr, blk W bst = some (stE na nn nc aa an ac (some ⟨br, 0, none⟩) R.length rc) ∧ O bst = .a (2 * g + 2) 0 ∧ blk W br = some Cr ∧ Blk.free W br = true ∧ O br = .a (2 * g + 2) 3 ∧ i < Cr.length ∧ Sto B O (put W br (splice Cr i [.slice a n c])) g bst N A (R.set i L) := by
  obtain ⟨na, nn, nc, aa, an, ac, ra, rn, rc, Ds, hs⟩ := h
  have hdl := hs.dl
  have hrn : Ds.length = rn := ((hs.rw.rw encD1_len).1).1
  obtain ⟨br, Cr, rfl, k2, k3, k4, k5, k6, k7, k8⟩ := hs.rw.set encD1_len (i := i) (by omega) ⟨a, n, c⟩
  rw [Nat.mul_one] at k6 k8
  have hne : ∀ {b : Nat} {l : Lab}, O b = l → l ≠ .a (2 * g + 2) 3 → b ≠ br := fun h1 h2 e => by rw [e, k4] at h1; exact h2 h1.symm
  have hkeep : ∀ {l : Lab} {ty : TypeId} {sz : Nat} {v : Value} {k : Nat} {xs : List Value}, l ≠ .a (2 * g + 2) 3 → RowL B O l W ty sz v k xs → RowL B O l (put W br (splice Cr i [.slice a n c])) ty sz v k xs := fun hl hr => hr.keep (fun b hb hl' => ⟨by
    rw [heap_put, if_neg (hne hl' hl)], rfl⟩)
  have hcell : blk (put W br (splice Cr i [.slice a n c])) bst = some (stE na nn nc aa an ac (some ⟨br, 0, none⟩) rn rc) := by
    rw [blk_put, if_neg (hne hs.own (lab_j (by omega)))]; exact hs.cell
  have hcore : Sub (core O W) (core O (put W br (splice Cr i [.slice a n c]))) := fun b C hb => by
    obtain ⟨h1, h2⟩ := core_blk hb
    refine blk_core ?_ h2
    rw [blk_put, if_neg (hne h2 (fun e => by cases e))]; exact h1
  refine ⟨na, nn, nc, aa, an, ac, br, rc, Cr, by rw [← hdl, hrn]; exact hs.cell, hs.own, k2, k3, k4, by omega, na, nn, nc, aa, an, ac, some ⟨br, 0, none⟩, rn, rc, Ds.set i ⟨a, n, c⟩, hcell, by rw [free_put]; exact hs.fre, hs.own, hs.low, hkeep (lab_j (by omega)) hs.nm, hkeep (lab_j (by omega)) hs.ar, k8, by rw [List.length_set, List.length_set]; exact hdl, fun q d K hd hK => ?_⟩
  by_cases hq : q = i
  · subst hq
    rw [List.getElem?_set_self (by omega)] at hd
    rw [List.getElem?_set_self hi] at hK
    obtain rfl := Option.some.inj hd
    obtain rfl := Option.some.inj hK
    exact hL.sub hcore
  · rw [List.getElem?_set_ne (fun e => hq e.symm)] at hd hK
    exact (hs.dr q d K hd hK).sub hcore
/-- The rows while they are written. -/
def mixR (R' R : List (List Tup)) (i : Nat) : List (List Tup) := R'.take i ++ R.drop i
theorem mixR_set {R' R : List (List Tup)} {i : Nat} {L : List Tup} (h : R'[i]? = some L) (hl : R'.length = R.length) : (mixR R' R i).set i L = mixR R' R (i + 1) := by
  have hi : i < R'.length := (List.getElem?_eq_some_iff.1 h).1
  unfold mixR
  rw [take_at h, List.set_append, if_neg (by rw [List.length_take]; omega)]
  have e : i - (R'.take i).length = 0 := by rw [List.length_take]; omega
  rw [e, List.drop_eq_getElem_cons (by omega : i < R.length), List.set_cons_zero, List.append_assoc]; rfl
theorem mixR_len {R' R : List (List Tup)} {i : Nat} (hl : R'.length = R.length) (hi : i ≤ R.length) : (mixR R' R i).length = R.length := by
  unfold mixR
  rw [List.length_append, List.length_take, List.length_drop]; omega
def SetPost (B : Nat) (O : Own) (W : World) (g bst : Nat) (N : List (List UInt8)) (A : List Int) (R : List (List Tup)) (p : PP) (Bs : List (List Tup)) (e : Ending) (V : World) : Prop := ∃ R', PerfTo p 0 Bs R' ∧ RInv p R' ∧ e = .returned (.int .i64 (if overB R' then 16 else 0)) ∧ StoOut B O W g bst N A (if overB R' then R else R') V
def stlI (O1 : Own) (V1 : World) (B g bst be n bo c : Nat) (N : List (List UInt8)) (A : List Int) (R' R : List (List Tup)) (f : Nat → Value) (V : World) : Prop := f 0 = .pointer (some ⟨be, 0, none⟩) ∧ f 5 = .slice (some ⟨bo, 0, none⟩) n c ∧ ∃ i : Nat, i ≤ n ∧ f 6 = .int .i64 (i : Nat) ∧ Hid (Fr (isS g) O1 V1 O1 V ∧ Sto B O1 V g bst N A (mixR R' R i))
attribute [local go_sem] st_len st0 st1 st2
set_option maxRecDepth 100000 in
theorem frame34s (f : Nat → Value) : frameN 34 f = #[f 0, f 1, f 2, f 3, f 4, f 5, f 6, f 7, f 8, f 9, f 10, f 11, f 12, f 13, f 14, f 15, f 16, f 17, f 18, f 19, f 20, f 21, f 22, f 23, f 24, f 25, f 26, f 27, f 28, f 29, f 30, f 31, f 32, f 33] := by kernel_rfl
set_option maxRecDepth 40000 in
set_option maxHeartbeats 4000000 in
theorem settleE_any {B : Nat} {O : Own} {W : World} {g be bi bst : Nat} {N : List (List UInt8)} {A : List Int} {R : List (List Tup)} {p : PP} (hE : blk W be = some (engE bi bst)) (hEO : O be = .no) (hp : ProgC W bi p) (hok : PPok p) (hS : Sto B O W g bst N A R) (hI : RInv p R) (a : Option Addr) (c : Nat) (Bs : List (List Tup)) (hB : RelR W a p.preds.length Bs) (hBI : RInv p Bs) : Calls Tryz.prog 162 #[.pointer (some ⟨be, 0, none⟩), .slice a p.preds.length c] W (SetPost B O W g bst N A R p Bs) := by
  obtain ⟨Q, hQ⟩ : ∃ Q, Q = SetPost B O W g bst N A R p Bs := ⟨_, rfl⟩
  rw [← hQ]
  have HQ := hid_of hQ
  have HS := hid_of hS
  have HI := hid_of hI
  have HE := hid_of hE
  have HEO := hid_of hEO
  have h64 := hok.nD
  have hpf := perfect_any W bi p hp hok a c Bs hB hBI
  obtain ⟨n, hn⟩ : ∃ n, n = p.preds.length := ⟨_, rfl⟩
  rw [← hn] at h64 hpf ⊢
  have HN := hid_of hn
  clear hQ hp hok hS hI hn hB hBI hEO
  go_enter Tryz.func162, Tryz.ntmps162
  go_wp2_with fail
  refine hpf.mono ?_
  rintro e V1 ⟨bo, c1, R', rfl, hx1, hR1, hRI1, hPT⟩
  rw [← HN.out] at hR1 ⊢
  have hov := over_any (hR1.sub (newc_sub _ _)) (fun L hL => by have := (hRI1.1 L hL).len; omega) (by omega) c1
  have hE1 : blk V1 be = some (engE bi bst) := (hx1.blk (blk_lt hE)).trans hE
  obtain ⟨ob, hob⟩ : ∃ ob, ob = overB R' := ⟨_, rfl⟩
  rw [← hob] at hov
  have HOB := hid_of hob
  have HX1 := hid_of hx1
  have HR1 := hid_of hR1
  have HRI := hid_of hRI1
  have HPT := hid_of hPT
  clear hpf hE hx1 hR1 hRI1 hPT hob
  dsimp only
  go_wp2_with fail
  refine hov.mono ?_
  rintro e V2 ⟨rfl, e9⟩
  replace e9 := e9.symm
  subst e9
  clear hov
  dsimp only
  cases ob with
  | true =>
    have HP : Hid (Q (.returned (.int .i64 16)) V1) := by
      show Q _ _
      rw [HQ.out]
      refine ⟨R', HPT.out, HRI.out, by rw [← HOB.out]; rfl, ?_⟩
      rw [← HOB.out]
      exact ⟨_, Fr.grow HX1.out, HS.out.new HX1.out⟩
    clear hE1
    go_wp2_with fail
    try go_ret
    exact HP.out
  | false =>
    obtain ⟨O1, hO1⟩ : ∃ O1, O1 = lab O W.heap.size .no := ⟨_, rfl⟩
    have HO1 := hid_of hO1
    have hrl : R'.length = R.length := by rw [HRI.out.2, HI.out.2]
    have HRL := hid_of hrl
    have HRC : Hid (RelR (core O1 V1) (some ⟨bo, 0, none⟩) n R') := by
      show RelR _ _ _ _
      rw [hO1]; exact HR1.out.sub (newc_core O)
    have hEO1 : O1 be = .no := by rw [hO1, lab_lt (blk_lt HE.out)]; exact HEO.out
    have HEO1 := hid_of hEO1
    have HE1 := hid_of hE1
    have HI0 : Hid (Fr (isS g) O1 V1 O1 V1 ∧ Sto B O1 V1 g bst N A (mixR R' R 0)) := by
      refine ⟨Fr.refl _ _ _, ?_⟩
      have e0 : mixR R' R 0 = R := by simp [mixR]
      rw [e0, hO1]; exact HS.out.new HX1.out
    have HNL : Hid (n = R.length) := by rw [hid_of HI.out.2 |>.out]; exact HN.out
    clear hE1 hO1 hrl hEO1
    go_upto_region 5 with fail
    refine wp_loop_f 34 (stlI O1 V1 B g bst be n bo c1 N A R' R) (fun f _ => n - (intOf (f 6)).toNat) rfl ⟨rfl, rfl, 0, by omega, rfl, HI0⟩ ?_
    clear HI0
    intro F V hrel
    obtain ⟨f0, f5, i, hi, f6, HI1⟩ := hrel
    have H6 := hid_of f6
    rw [frame34s, f0, f5, f6]
    clear f0 f5 f6
    obtain ⟨hF, hS⟩ := HI1.out
    by_cases hin : i < n
    · have hin' : (i : Int) < (n : Int) := by omega
      obtain ⟨L, hL⟩ : ∃ L, R'[i]? = some L := ⟨_, List.getElem?_eq_getElem (by rw [HRL.out, ← HNL.out]; exact hin)⟩
      have hrc := HRC.out.sub (Sub.ext (core_fr hF (isS_no g)))
      obtain ⟨b', C, la, lc, g1, g2, g3, g4, g5⟩ := hrc.at hL
      obtain ⟨g2', g2o⟩ := core_blk g2
      have hb' : b' = bo := by
        have := Option.some.inj g1
        exact (congrArg Addr.block this).symm
      subst hb'
      have hmi : i < (mixR R' R i).length := by rw [mixR_len HRL.out (by rw [← HNL.out]; omega), ← HNL.out]; exact hin
      obtain ⟨na, nn, nc, aa, an, ac, br, rc, Cr, q1, qo, q2, q3, q4, q5, q6⟩ := hS.setRow (c := lc) hmi g5
      rw [mixR_set hL HRL.out] at q6
      rw [mixR_len HRL.out (by rw [← HNL.out]; omega), ← HNL.out] at q1
      have hbe : blk V b' = some C := g2'
      have hee : blk V be = some (engE bi bst) := hF.blk HE1.out (by rw [HEO1.out]; exact isS_no g)
      have hOe : O1 be = .no := HEO1.out
      have ne1 : ¬ be = br := fun e => by rw [e, q4] at hOe; cases hOe
      have ne2 : ¬ b' = br := fun e => by rw [e, q4] at g2o; cases g2o
      have ne3 : ¬ bst = br := fun e => by rw [e, q4] at qo; exact lab_j (by omega) qo
      have HI' : Hid (Fr (isS g) O1 V1 O1 (put V br (splice Cr i [.slice la L.length lc])) ∧ Sto B O1 (put V br (splice Cr i [.slice la L.length lc])) g bst N A (mixR R' R (i + 1))) := ⟨hF.put (L := isS g) (by rw [q4]; exact ⟨3, rfl⟩) _, q6⟩
      have HID : Hid (Fr (isS g) O1 V1 O1 (put V.drew br (splice Cr i [.slice la L.length lc])) ∧ Sto B O1 (put V.drew br (splice Cr i [.slice la L.length lc])) g bst N A (mixR R' R (i + 1))) := ⟨(hF.drew).put (L := isS g) (by rw [q4]; exact ⟨3, rfl⟩) _, q6.fr (L := fun _ => False) ⟨rfl, rfl, rfl, Nat.le_refl _, fun _ _ => rfl, fun _ _ _ => rfl⟩ (fun _ h => h) (fun h => h)⟩
      have hfin : ∀ X, blk (put V.drew br X) be = some (engE bi bst) ∧ blk (put V.drew br X) bst = some (stE na nn nc aa an ac (some ⟨br, 0, none⟩) n rc) ∧ blk (put V.drew br X) b' = some C := fun X => ⟨by rw [blk_put, if_neg ne1]; exact hee, by rw [blk_put, if_neg ne3]; exact q1, by rw [blk_put, if_neg ne2]; exact hbe⟩
      have i0 : (0 : Int) ≤ (i : Int) := by omega
      have i2 : ((i : Int)).toNat = i := by omega
      have q5' : i + 1 ≤ Cr.length := by omega
      obtain ⟨ln, hln⟩ : ∃ ln, ln = L.length := ⟨_, rfl⟩
      rw [← hln] at g4 HID
      clear HI1 hF hS hrc g1 g2 g2' g2o g5 hmi q6 qo q4 HI' hL hOe ne1 ne2 ne3 hln
      go_upto_region 7 with fail
      refine wp_region_held_drew (S := fun W' => blk W' be = some (engE bi bst) ∧ blk W' bst = some (stE na nn nc aa an ac (some ⟨br, 0, none⟩) n rc) ∧ blk W' b' = some C) (by kernel_rfl) ⟨hee, q1, hbe⟩ (fun hHeld => ?_)
      refine wpAnyH_take (i := 0) (oi := ⟨_, _, _, _, _, _⟩) (v := ?_) rfl (by kernel_rfl) (by kernel_rfl) (by kernel_rfl) (fun _ _ _ h => h) (Or.inl ⟨by rfl, ?_⟩) (by assumption) ?_
      rotate_left 1
      · intro W' hSw
        obtain ⟨hS1, hS2, hS3⟩ := hSw
        go_simp
        try with_reducible rfl
      try simp only [Act.put, List.setIfInBounds_toArray, List.set_cons_zero, List.set_cons_succ]
      refine wpAnyH_take (i := 1) (oi := ⟨_, _, _, _, _, _⟩) (v := ?_) rfl (by kernel_rfl) (by kernel_rfl) (by kernel_rfl) (fun _ _ _ h => h) (Or.inl ⟨by rfl, ?_⟩) (by assumption) ?_
      rotate_left 1
      · intro W' hSw
        obtain ⟨hS1, hS2, hS3⟩ := hSw
        go_simp
        try with_reducible rfl
      try simp only [Act.put, List.setIfInBounds_toArray, List.set_cons_zero, List.set_cons_succ]
      refine wpAnyH_take (i := 2) (oi := ⟨_, _, _, _, _, _⟩) (v := ?_) rfl (by kernel_rfl) (by kernel_rfl) (by kernel_rfl) (fun _ _ _ h => h) (Or.inl ⟨by rfl, ?_⟩) (by assumption) ?_
      rotate_left 1
      · intro W' hSw
        obtain ⟨hS1, hS2, hS3⟩ := hSw
        go_simp
        try with_reducible rfl
      try simp only [Act.put, List.setIfInBounds_toArray, List.set_cons_zero, List.set_cons_succ]
      refine wpAnyH_take (i := 3) (oi := ⟨_, _, _, _, _, _⟩) (v := ?_) rfl (by kernel_rfl) (by kernel_rfl) (by kernel_rfl) (fun _ _ _ h => h) (Or.inl ⟨by rfl, ?_⟩) (by assumption) ?_
      rotate_left 1
      · intro W' hSw
        obtain ⟨hS1, hS2, hS3⟩ := hSw
        go_simp
        try with_reducible rfl
      try simp only [Act.put, List.setIfInBounds_toArray, List.set_cons_zero, List.set_cons_succ]
      refine wpAnyH_take (i := 4) (oi := ⟨_, _, _, _, _, _⟩) (v := ?_) rfl (by kernel_rfl) (by kernel_rfl) (by kernel_rfl) (fun _ _ _ h => h) (Or.inl ⟨by rfl, ?_⟩) (by assumption) ?_
      rotate_left 1
      · intro W' hSw
        obtain ⟨hS1, hS2, hS3⟩ := hSw
        go_simp
        try with_reducible rfl
      try simp only [Act.put, List.setIfInBounds_toArray, List.set_cons_zero, List.set_cons_succ]
      refine wpAnyH_take (i := 5) (oi := ⟨_, _, _, _, _, _⟩) (v := ?_) rfl (by kernel_rfl) (by kernel_rfl) (by kernel_rfl) (fun _ _ _ h => h) (Or.inl ⟨by rfl, ?_⟩) (by assumption) ?_
      rotate_left 1
      · intro W' hSw
        obtain ⟨hS1, hS2, hS3⟩ := hSw
        go_simp
        try with_reducible rfl
      try simp only [Act.put, List.setIfInBounds_toArray, List.set_cons_zero, List.set_cons_succ]
      refine wpAnyH_take (i := 6) (oi := ⟨_, _, _, _, _, _⟩) (v := ?_) rfl (by kernel_rfl) (by kernel_rfl) (by kernel_rfl) (fun _ _ _ h => h) (Or.inl ⟨by rfl, ?_⟩) (by assumption) ?_
      rotate_left 1
      · intro W' hSw
        obtain ⟨hS1, hS2, hS3⟩ := hSw
        go_simp
        try with_reducible rfl
      try simp only [Act.put, List.setIfInBounds_toArray, List.set_cons_zero, List.set_cons_succ]
      refine wpAnyH_take (i := 7) (oi := ⟨_, _, _, _, _, _⟩) (v := ?_) rfl (by kernel_rfl) (by kernel_rfl) (by kernel_rfl) (fun _ _ _ h => h) (Or.inl ⟨by rfl, ?_⟩) (by assumption) ?_
      rotate_left 1
      · intro W' hSw
        obtain ⟨hS1, hS2, hS3⟩ := hSw
        go_simp
        try with_reducible rfl
      try simp only [Act.put, List.setIfInBounds_toArray, List.set_cons_zero, List.set_cons_succ]
      refine wpAnyH_take (i := 8) (oi := ⟨_, _, _, _, _, _⟩) (v := ?_) rfl (by kernel_rfl) (by kernel_rfl) (by kernel_rfl) (fun _ _ _ h => h) (Or.inl ⟨by rfl, ?_⟩) (by assumption) ?_
      rotate_left 1
      · intro W' hSw
        obtain ⟨hS1, hS2, hS3⟩ := hSw
        go_simp
        try with_reducible rfl
      try simp only [Act.put, List.setIfInBounds_toArray, List.set_cons_zero, List.set_cons_succ]
      refine wpAnyH_take (i := 9) (oi := ⟨_, _, _, _, _, _⟩) (v := ?_) rfl (by kernel_rfl) (by kernel_rfl) (by kernel_rfl) (fun _ _ _ h => h) (Or.inl ⟨by rfl, ?_⟩) (by assumption) ?_
      rotate_left 1
      · intro W' hSw
        obtain ⟨hS1, hS2, hS3⟩ := hSw
        go_simp
        try with_reducible rfl
      try simp only [Act.put, List.setIfInBounds_toArray, List.set_cons_zero, List.set_cons_succ]
      refine wpAnyH_take (i := 10) (oi := ⟨_, _, _, _, _, _⟩) (v := ?_) rfl (by kernel_rfl) (by kernel_rfl) (by kernel_rfl) (fun _ _ _ h => h) (Or.inl ⟨by rfl, ?_⟩) (by assumption) ?_
      rotate_left 1
      · intro W' hSw
        obtain ⟨hS1, hS2, hS3⟩ := hSw
        go_simp
        try with_reducible rfl
      try simp only [Act.put, List.setIfInBounds_toArray, List.set_cons_zero, List.set_cons_succ]
      refine wpAnyH_take (i := 11) (oi := ⟨_, _, _, _, _, _⟩) (v := ?_) rfl (by kernel_rfl) (by kernel_rfl) (by kernel_rfl) (fun _ _ _ h => h) (Or.inl ⟨by rfl, ?_⟩) (by assumption) ?_
      rotate_left 1
      · intro W' hSw
        obtain ⟨hS1, hS2, hS3⟩ := hSw
        go_simp
        try with_reducible rfl
      try simp only [Act.put, List.setIfInBounds_toArray, List.set_cons_zero, List.set_cons_succ]
      refine wpAnyH_take (i := 12) (oi := ⟨_, _, _, _, _, _⟩) (v := ?_) rfl (by kernel_rfl) (by kernel_rfl) (by kernel_rfl) (fun _ _ _ h => h) (Or.inl ⟨by rfl, ?_⟩) (by assumption) ?_
      rotate_left 1
      · intro W' hSw
        obtain ⟨hS1, hS2, hS3⟩ := hSw
        go_simp
        try with_reducible rfl
      try simp only [Act.put, List.setIfInBounds_toArray, List.set_cons_zero, List.set_cons_succ]
      refine wpAnyH_ready (rs := [13]) (by kernel_rfl) (by simp) ?_
      refine AllReadyH.cons (o := ⟨_, _, _, _, _, _⟩) rfl (fun K' hK => ?_) AllReadyH.nil
      go_simp
      refine hK.out _ _ (hfin _) (fun hHeld => ?_)
      clear hK K'
      try simp only [Act.put, List.setIfInBounds_toArray, List.set_cons_zero, List.set_cons_succ]
      refine wpAnyH_done (by kernel_rfl) ?_ _
      go_wp2_with fail
      refine ⟨rfl, rfl, ⟨rfl, rfl, i + 1, by omega, ?_, HID⟩, ?_⟩
      · show Value.int .i64 _ = _
        go_num
      · show n - (intOf (Value.int .i64 _)).toNat < n - (intOf (F 6)).toNat
        rw [H6.out]
        simp [intOf]; omega
    · have hin' : ¬ (i : Int) < (n : Int) := by omega
      have HP : Hid (Q (.returned (.int .i64 0)) V) := by
        show Q _ _
        rw [HQ.out]
        refine ⟨R', HPT.out, HRI.out, by rw [← HOB.out]; rfl, ?_⟩
        rw [← HOB.out]
        refine ⟨O1, ?_, ?_⟩
        · have h1 := (Fr.grow (L := isS g) HX1.out : Fr (isS g) O W (lab O W.heap.size .no) V1)
          rw [← HO1.out] at h1
          exact h1.trans hF
        · have h2 : mixR R' R i = R' := by
            unfold mixR
            rw [List.take_of_length_le (by rw [HRL.out, ← HNL.out]; omega), List.drop_of_length_le (by rw [← HNL.out]; omega), List.append_nil]
          rw [h2] at hS; exact hS
      clear hF hS HI1
      go_wp2_with fail
      try go_ret
      exact HP.out
end Go.Proofs.Qxb6500787aGreat
