
import Derived.Test.Qxb6500787aGreatTm
import Derived.StillTailTactics
import Derived.Deep.QuietTactic
import Derived.BigQuiet
import Derived.Deep.RegionHeld
import Derived.Deep.CutRange
import Derived.Laws.ResultCell
import Derived.Laws.Rows
import Derived.DeepKeys
import Derived.DataBytes
import Derived.Laws.StructEq
import Derived.Laws.AppendOwn
import Derived.Laws.MakeOwn
import Derived.Lib.AppendStr
set_option linter.unusedSimpArgs false
set_option linter.unusedVariables false
namespace Go.Proofs.Qxb6500787aGreat
open Go.RowKit Go.Blk
attribute [local go_sem ↓] execOp_load execOp_store execOp_alloc
attribute [local go_sem] Tryz.ld26 Tryz.st26 Tryz.ld27 Tryz.st27 Tryz.ld28 Tryz.st28 Tryz.ld3 Tryz.st3 Tryz.ld29 Tryz.st29 Tryz.ld44 Tryz.st44 Tryz.ld4 Tryz.st4 Tryz.ld50 Tryz.st50 Tryz.ld32 Tryz.st32 Tryz.ld49 Tryz.st49 Tryz.ld68 Tryz.st68 Tryz.ld9 Tryz.st9 Tryz.ld40 Tryz.st40 Tryz.ld138 Tryz.st138 Tryz.ld139 Tryz.st139 Tryz.ld146 Tryz.st146 Tryz.ld183 Tryz.st183 Tryz.ld184 Tryz.st184 Tryz.ld192 Tryz.st192 Tryz.ld195 Tryz.st195 Tryz.ld217 Tryz.st217 Tryz.ld159 Tryz.st159 Tryz.ld142 Tryz.st142 Tryz.ld2 Tryz.st2 Tryz.ld5 Tryz.st5 Tryz.ld12 Tryz.st12 Tryz.ld21 Tryz.st21 Tryz.ld22 Tryz.st22 Tryz.ld24 Tryz.st24 Tryz.ld58 Tryz.st58 Tryz.ld97 Tryz.st97 Tryz.ld101 Tryz.st101 Tryz.ld116 Tryz.st116 Tryz.ld121 Tryz.st121 Tryz.ld135 Tryz.st135 Tryz.ld136 Tryz.st136 Tryz.ld143 Tryz.st143 Tryz.ld148 Tryz.st148 Tryz.ld154 Tryz.st154 Tryz.ld173 Tryz.st173 Tryz.ld187 Tryz.st187 Tryz.ld222 Tryz.st222 Tryz.ld241 Tryz.st241 Tryz.ld248 Tryz.st248 Tryz.ld268 Tryz.st268 Tryz.ld272 Tryz.st272 Tryz.ld153 Tryz.st153 Tryz.ld255 Tryz.st255 Tryz.ld256 Tryz.st256 Tryz.ld129 Tryz.st129 Tryz.ld152 Tryz.st152 Tryz.ld31 Tryz.st31 Tryz.ld46 Tryz.st46 Tryz.ld52 Tryz.st52 Tryz.ld54 Tryz.st54 Tryz.ld60 Tryz.st60 Tryz.ld70 Tryz.st70 Tryz.ld74 Tryz.st74 Tryz.ld93 Tryz.st93 Tryz.ld141 Tryz.st141 Tryz.ld151 Tryz.st151 Tryz.ld170 Tryz.st170 Tryz.ld186 Tryz.st186 Tryz.ld189 Tryz.st189 Tryz.ld194 Tryz.st194 Tryz.ld197 Tryz.st197 Tryz.ld219 Tryz.st219 Tryz.ld224 Tryz.st224 Tryz.ld230 Tryz.st230 Tryz.ld235 Tryz.st235 Tryz.ld243 Tryz.st243 Tryz.ld247 Tryz.st247 Tryz.ld252 Tryz.st252 Tryz.ld258 Tryz.st258 Tryz.al153 Tryz.al255 Tryz.al256 Tryz.al129 Tryz.al152 Tryz.al31 Tryz.al46 Tryz.al52 Tryz.al54 Tryz.al60 Tryz.al70 Tryz.al74 Tryz.al93 Tryz.al141 Tryz.al151 Tryz.al170 Tryz.al186 Tryz.al189 Tryz.al194 Tryz.al197 Tryz.al219 Tryz.al224 Tryz.al230 Tryz.al235 Tryz.al243 Tryz.al247 Tryz.al252 Tryz.al258
attribute [local go_sem] Request.length_enc Request.ok_enc Request.all_get Request.all_set Request.kind_get Request.kind_set Request.blob_get Request.blob_set Request.items_get Request.items_set Request.pred_get Request.pred_set Request.slots_get Request.slots_set Trace.length_enc Trace.ok_enc Trace.all_get Trace.all_set Trace.op_get Trace.op_set Trace.calls_get Trace.calls_set Item.length_enc Item.ok_enc Item.all_get Item.all_set Item.del_get Item.del_set Item.pred_get Item.pred_set Item.args_get Item.args_set Reply.length_enc Reply.ok_enc Reply.all_get Reply.all_set Reply.code_get Reply.code_set Reply.kind_get Reply.kind_set Reply.index_get Reply.index_set Reply.yes_get Reply.yes_set Reply.preds_get Reply.preds_set Reply.rules_get Reply.rules_set Reply.arity_get Reply.arity_set Reply.rows_get Reply.rows_set Reply.fact_get Reply.fact_set Reply.fact_del_get Reply.fact_del_set Reply.fact_pred_get Reply.fact_pred_set Reply.fact_args_get Reply.fact_args_set GEntry.length_enc GEntry.ok_enc GEntry.all_get GEntry.all_set GEntry.seq_get GEntry.seq_set GEntry.kind_get GEntry.kind_set GEntry.code_get GEntry.code_set GOp.length_enc GOp.ok_enc GOp.all_get GOp.all_set GOp.kind_get GOp.kind_set GOp.raw_get GOp.raw_set Reader.length_enc Reader.ok_enc Reader.all_get Reader.all_set Reader.buf_get Reader.buf_set Reader.at__get Reader.at__set Slot.length_enc Slot.ok_enc Slot.all_get Slot.all_set Slot.bound_get Slot.bound_set Slot.name_get Slot.name_set Session.length_enc Session.ok_enc Session.all_get Session.all_set Session.svc_get Session.svc_set Session.buf_get Session.buf_set Session.closed_get Session.closed_set GProgram.length_enc GProgram.ok_enc GProgram.all_get GProgram.all_set GProgram.pool_get GProgram.pool_set GProgram.preds_get GProgram.preds_set GProgram.rules_get GProgram.rules_set GProgram.strata_get GProgram.strata_set PredInfo.length_enc PredInfo.ok_enc PredInfo.all_get PredInfo.all_set PredInfo.arity_get PredInfo.arity_set PredInfo.base_get PredInfo.base_set PredInfo.stratum_get PredInfo.stratum_set Change.length_enc Change.ok_enc Change.all_get Change.all_set Change.del_get Change.del_set Change.pred_get Change.pred_set Change.t_get Change.t_set Store.length_enc Store.ok_enc Store.all_get Store.all_set Store.names_get Store.names_set Store.arity_get Store.arity_set Store.rows_get Store.rows_set Src.length_enc Src.ok_enc Src.all_get Src.all_set Src.b_get Src.b_set Src.at__get Src.at__set Atom.length_enc Atom.ok_enc Atom.all_get Atom.all_set Atom.pred_get Atom.pred_set Atom.args_get Atom.args_set GRule.length_enc GRule.ok_enc GRule.all_get GRule.all_set GRule.head_get GRule.head_set GRule.body_get GRule.body_set GRule.head_pred_get GRule.head_pred_set GRule.head_args_get GRule.head_args_set Cert.length_enc Cert.ok_enc Cert.all_get Cert.all_set Cert.names_get Cert.names_set Cert.nodes_get Cert.nodes_set Fact.length_enc Fact.ok_enc Fact.all_get Fact.all_set Fact.pred_get Fact.pred_set Fact.t_get Fact.t_set Literal.length_enc Literal.ok_enc Literal.all_get Literal.all_set Literal.neg_get Literal.neg_set Literal.atom_get Literal.atom_set Literal.atom_pred_get Literal.atom_pred_set Literal.atom_args_get Literal.atom_args_set Engine.length_enc Engine.ok_enc Engine.all_get Engine.all_set Engine.prog_get Engine.prog_set Engine.st_get Engine.st_set SrcCertm.length_enc SrcCertm.ok_enc SrcCertm.all_get SrcCertm.all_set SrcCertm.b_get SrcCertm.b_set SrcCertm.at__get SrcCertm.at__set GNode.length_enc GNode.ok_enc GNode.all_get GNode.all_set GNode.rule_get GNode.rule_set GNode.pred_get GNode.pred_set GNode.vals_get GNode.vals_set GNode.refs_get GNode.refs_set Term.length_enc Term.ok_enc Term.all_get Term.all_set Term.var_get Term.var_set Term.n_get Term.n_set Env.length_enc Env.ok_enc Env.all_get Env.all_set Env.val_get Env.val_set Env.set_get Env.set_set
attribute [local go_sem] size_put size_ext blk_put free_put blk_alloc free_alloc blk_drew free_drew blk_ext free_ext lookOr_some putOr_some segAt_some cellAt_some storeIn_some put_put put_alloc_new length_arr ok_arr_u8 ok_arr_u32 ok_arr_u64 ok_arr_i64 ok_arr_sl cellsV_agg cellsV_int cellsV_bool cellsV_string cellsV_pointer cellsV_slice cellsV_sl ok_int ok_bool ok_string ok_pointer ok_slice ok_sl toList_arr seg_arr set_arr nth_splice nth_splice0 seg_splice seg_splice0 splice_splice splice_splice0 length_splice_if
attribute [local go_sem ↓] execOp_box
attribute [local go_sem] box_run nth_arr_u8 put_arr_u8 blk_drewN free_drewN put_drewN blk_raw free_raw
/-- A program whose rows never change. -/
def ProgL (O : Own) (W : World) (bi : Nat) (p : PP) : Prop := ∃ Ce, blk W bi = some Ce ∧ 4 ≤ Ce.length ∧ PgR (core O W) Ce p
theorem ProgL.fr {L : Lab → Prop} {O O' : Own} {W W' : World} {bi : Nat} {p : PP} (h : ProgL O W bi p) (hf : Fr L O W O' W') (hb : ¬ L (O bi)) (hn : ¬ L .no) : ProgL O' W' bi p := by
  obtain ⟨Ce, h1, h2, h3⟩ := h
  exact ⟨Ce, hf.blk h1 hb, h2, h3.sub (Sub.ext (core_fr hf hn))⟩
theorem ProgL.c {O : Own} {W : World} {bi : Nat} {p : PP} (h : ProgL O W bi p) : ProgC W bi p := by
  obtain ⟨Ce, h1, h2, h3⟩ := h
  exact ⟨Ce, h1, h2, h3.sub (core_sub O W)⟩
theorem lookF_nodup {P : List (List UInt8)} (h : P.Nodup) {i : Nat} {nm : List UInt8} (hi : P[i]? = some nm) : lookF (P.take i) nm = -1 := by
  refine lookF_no (fun j x hx e => ?_)
  subst e
  have hj : j < i := by
    have := (List.getElem?_eq_some_iff.1 hx).1
    rw [List.length_take] at this; omega
  rw [List.getElem?_take, if_pos hj] at hx
  obtain ⟨h1, e1⟩ := List.getElem?_eq_some_iff.1 hi
  obtain ⟨h2, e2⟩ := List.getElem?_eq_some_iff.1 hx
  exact List.pairwise_iff_getElem.1 h j i h2 h1 hj (e2.trans e1.symm)
theorem internF_pool {P : List (List UInt8)} (h : P.Nodup) (hl : P.length ≤ 256) {i : Nat} {nm : List UInt8} (hi : P[i]? = some nm) : internF (P.take i) nm = ((i : Int), 0, P.take (i + 1)) := by
  have hi' : i < P.length := (List.getElem?_eq_some_iff.1 hi).1
  have hlen : (P.take i).length = i := by rw [List.length_take]; omega
  unfold internF
  rw [if_neg (fun h' => h' (lookF_nodup h hi)), if_neg (by rw [hlen]; omega), hlen, take_at hi]
theorem build235 (w : World) (x y : Option Addr) : (buildOp 297 #[(0, .pointer x), (1, .pointer y)]).run Tryz.prog w = .ok (.value (.agg (Engine.enc ⟨x, y⟩).toArray)) w := by kernel_rfl
def NewEPost (B : Nat) (O : Own) (W : World) (g bi bst : Nat) (p : PP) (e : Ending) (V : World) : Prop := ∃ be P O' A, e = .returned (.tuple #[.pointer (some ⟨be, 0, none⟩), .int .i64 (if overB P then 16 else 0)]) ∧ PerfTo p 0 (basR p (List.replicate p.preds.length [])) P ∧ RInv p P ∧ Fr (isS g) O W O' V ∧ Sto B O' V g bst p.pool A (if overB P then List.replicate p.preds.length [] else P) ∧ blk V be = some (engE bi bst) ∧ O' be = .no ∧ W.heap.size ≤ be
def ne1I (O : Own) (W : World) (B g bi bst : Nat) (p : PP) (f : Nat → Value) (V : World) : Prop := f 0 = .pointer (some ⟨bi, 0, none⟩) ∧ f 1 = .pointer (some ⟨bst, 0, none⟩) ∧ ∃ i : Nat, i ≤ p.pool.length ∧ f 6 = .int .i64 (i : Nat) ∧ Hid (∃ O', Fr (isS g) O W O' V ∧ Sto B O' V g bst (p.pool.take i) [] [])
def ne2I (O : Own) (W : World) (B g bi bst : Nat) (p : PP) (f : Nat → Value) (V : World) : Prop := f 0 = .pointer (some ⟨bi, 0, none⟩) ∧ f 1 = .pointer (some ⟨bst, 0, none⟩) ∧ ∃ i : Nat, i ≤ p.preds.length ∧ f 7 = .int .i64 (i : Nat) ∧ Hid (∃ O' A, Fr (isS g) O W O' V ∧ Sto B O' V g bst p.pool A (List.replicate i []) ∧ A.length = i)
attribute [local go_sem ↓] execOp_bslice execOp_build
attribute [local go_sem] build235
set_option maxRecDepth 100000 in
theorem frame55n (f : Nat → Value) : frameN 55 f = #[f 0, f 1, f 2, f 3, f 4, f 5, f 6, f 7, f 8, f 9, f 10, f 11, f 12, f 13, f 14, f 15, f 16, f 17, f 18, f 19, f 20, f 21, f 22, f 23, f 24, f 25, f 26, f 27, f 28, f 29, f 30, f 31, f 32, f 33, f 34, f 35, f 36, f 37, f 38, f 39, f 40, f 41, f 42, f 43, f 44, f 45, f 46, f 47, f 48, f 49, f 50, f 51, f 52, f 53, f 54] := by kernel_rfl
set_option maxRecDepth 40000 in
set_option maxHeartbeats 4000000 in
theorem engNew_any {B : Nat} {O : Own} {W : World} {g bi bst : Nat} {p : PP} (hp : ProgL O W bi p) (hbo : ¬ isS g (O bi)) (hok : PPok p) (hnd : p.pool.Nodup) (hS : Sto B O W g bst [] [] []) (hB : B ≤ W.heap.size) : Calls Tryz.prog 154 #[.pointer (some ⟨bi, 0, none⟩), .pointer (some ⟨bst, 0, none⟩)] W (NewEPost B O W g bi bst p) := by
  obtain ⟨Q, hQ⟩ : ∃ Q, Q = NewEPost B O W g bi bst p := ⟨_, rfl⟩
  rw [← hQ]
  have HQ := hid_of hQ
  have HP := hid_of hp
  have HBO := hid_of hbo
  have HK := hid_of hok
  have HND := hid_of hnd
  have h256 := hok.nP
  have h64 := hok.nD
  have HI0 : Hid (∃ O', Fr (isS g) O W O' W ∧ Sto B O' W g bst (p.pool.take 0) [] []) := ⟨O, Fr.refl _ _ _, hS⟩
  clear hQ hp hbo hok hnd hS
  go_enter Tryz.func154, Tryz.ntmps154
  go_upto_region 2 with fail
  refine wp_loop_f 55 (ne1I O W B g bi bst p) (fun f _ => p.pool.length - (intOf (f 6)).toNat) rfl ⟨rfl, rfl, 0, by omega, rfl, HI0⟩ ?_
  clear HI0
  intro F V hrel
  obtain ⟨f0, f1, i, hi, f6, HI1⟩ := hrel
  have H6 := hid_of f6
  rw [frame55n, f0, f1, f6]
  clear f0 f1 f6
  obtain ⟨O1, hF1, hS1⟩ := HI1.out
  have hpl := HP.out.fr hF1 HBO.out (isS_no g)
  obtain ⟨Ce, pa, pc, da, dc, ra, rc, e1, e2, e3, e4, e5, e6, e7, e8, e9⟩ := hpl.c.cells
  have z0 : 0 < Ce.length := by omega
  have z1 : 1 < Ce.length := by omega
  by_cases hin : i < p.pool.length
  · have hin' : (i : Int) < (p.pool.length : Int) := by omega
    obtain ⟨nm, hnm⟩ : ∃ nm, p.pool[i]? = some nm := ⟨_, List.getElem?_eq_getElem hin⟩
    obtain ⟨bs, Cs, s1, s2, s3, s4⟩ := str_at e7 hnm
    subst s1
    have i0 : (0 : Int) ≤ (i : Int) := by omega
    have i2 : ((i : Int)).toNat = i := by omega
    have hin2 := intern_any hS1 (by have := hF1.size; omega) (by rw [List.length_take]; omega) nm
    rw [internF_pool HND.out h256 hnm] at hin2
    have HF1 := hid_of hF1
    clear hF1 hS1 hpl HI1 e4 e5 e6 e7 e8 e9 hnm
    go_wp2_with fail
    refine hin2.mono ?_
    rintro en V2 ⟨rfl, O2, hF2, hS2⟩
    have HI' : Hid (∃ O', Fr (isS g) O W O' V2 ∧ Sto B O' V2 g bst (p.pool.take (i + 1)) [] []) := ⟨O2, HF1.out.trans hF2, hS2⟩
    clear hin2 hF2 hS2 HF1
    dsimp only
    go_wp2_with fail
    refine ⟨rfl, rfl, ⟨rfl, rfl, i + 1, by omega, ?_, HI'⟩, ?_⟩
    · show Value.int .i64 _ = _
      go_num
    · show p.pool.length - (intOf (Value.int .i64 _)).toNat < p.pool.length - (intOf (F 6)).toNat
      rw [H6.out]
      simp [intOf]; omega
  have hin' : ¬ (i : Int) < (p.pool.length : Int) := by omega
  have HI2 : Hid (∃ O' A, Fr (isS g) O W O' V ∧ Sto B O' V g bst p.pool A (List.replicate 0 []) ∧ A.length = 0) := by
    rw [List.take_of_length_le (by omega)] at hS1
    exact ⟨O1, [], hF1, hS1, rfl⟩
  clear HI1 hF1 hS1 hpl hi H6 hin e4 e5 e6 e7 e8 e9
  go_upto_region 6 with fail
  refine wp_loop_f 55 (ne2I O W B g bi bst p) (fun f _ => p.preds.length - (intOf (f 7)).toNat) rfl ⟨rfl, rfl, 0, by omega, rfl, HI2⟩ ?_
  clear HI2 hin' e1 e2 e3 z0 z1
  clear Ce pa pc da dc ra rc O1
  intro F2 V2 hrel
  obtain ⟨f0, f1, j, hj, f7, HI2⟩ := hrel
  have H7 := hid_of f7
  rw [frame55n, f0, f1, f7]
  clear f0 f1 f7
  obtain ⟨O1, A1, hF1, hS1, hA1⟩ := HI2.out
  have hpl := HP.out.fr hF1 HBO.out (isS_no g)
  obtain ⟨Ce, pa, pc, da, dc, ra, rc, e1, e2, e3, e4, e5, e6, e7, e8, e9⟩ := hpl.c.cells
  have z0 : 0 < Ce.length := by omega
  have z1 : 1 < Ce.length := by omega
  by_cases hin : j < p.preds.length
  · have hin' : (j : Int) < (p.preds.length : Int) := by omega
    obtain ⟨bD, CD, d1, d2, d3, d4, -, -, d7⟩ := pred_at e8 (pI_at hin)
    subst d1
    have d8 : j * 3 < CD.length := by omega
    have j0 : (0 : Int) ≤ (j : Int) := by omega
    have j2 : ((j : Int)).toNat = j := by omega
    have hde := define_any hS1 (by have := hF1.size; omega) (by omega) (by rw [List.length_replicate]; omega) (pI p j).arity
    obtain ⟨ar, har⟩ : ∃ ar, ar = (pI p j).arity := ⟨_, rfl⟩
    rw [← har] at d4 hde
    have HF1 := hid_of hF1
    have HA1 := hid_of hA1
    clear hF1 hS1 hpl HI2 e3 e5 e6 e7 e8 e9 hA1 har
    go_wp2_with fail
    refine hde.mono ?_
    rintro en V3 ⟨rfl, O2, hF2, hS2⟩
    have HI' : Hid (∃ O' A, Fr (isS g) O W O' V3 ∧ Sto B O' V3 g bst p.pool A (List.replicate (j + 1) []) ∧ A.length = j + 1) := by
      refine ⟨O2, A1 ++ [ar], HF1.out.trans hF2, ?_, by rw [List.length_append, HA1.out]; rfl⟩
      rw [List.replicate_succ']; exact hS2
    clear hde hF2 hS2 HF1 HA1
    dsimp only
    go_wp2_with fail
    refine ⟨rfl, rfl, ⟨rfl, rfl, j + 1, by omega, ?_, HI'⟩, ?_⟩
    · show Value.int .i64 _ = _
      go_num
    · show p.preds.length - (intOf (Value.int .i64 _)).toNat < p.preds.length - (intOf (F2 7)).toNat
      rw [H7.out]
      simp [intOf]; omega
  have hin' : ¬ (j : Int) < (p.preds.length : Int) := by omega
  obtain rfl : j = p.preds.length := by omega
  have HF1 := hid_of hF1
  have HS1 := hid_of hS1
  have HPL := hid_of hpl
  clear HI2 hF1 hS1 hpl H7 hin e3 e5 e6 e7 e8 e9 hA1 hj
  go_upto_region 10 with fail
  refine wp_world (fun V => V2.Extends V ∧ blk V V2.heap.size = some (engE bi bst)) ⟨extends_alloc (ext_Ext (Ext.refl _)) _, by rw [blk_alloc, if_pos rfl]; rfl⟩ ?_
  rintro V3 ⟨hx3, hbe⟩
  obtain ⟨be, ebe⟩ : ∃ be, be = V2.heap.size := ⟨_, rfl⟩
  rw [← ebe] at hbe ⊢
  obtain ⟨O3, hO3⟩ : ∃ O3, O3 = lab O1 V2.heap.size .no := ⟨_, rfl⟩
  have hS3 : Sto B O3 V3 g bst p.pool A1 (List.replicate p.preds.length []) := by rw [hO3]; exact HS1.out.new hx3
  have hF3 : Fr (isS g) O1 V2 O3 V3 := by rw [hO3]; exact Fr.grow hx3
  have hP3 : ProgC V3 bi p := HPL.out.c.ext hx3
  have hE3 : O3 be = .no := by rw [hO3, ebe]; exact lab_ge (Nat.le_refl _)
  have hRI : RInv p (List.replicate p.preds.length []) := ⟨fun L hL => by rw [List.eq_of_mem_replicate hL]; exact outOk_nil, List.length_replicate⟩
  have hov : overB (List.replicate p.preds.length []) = false := by
    unfold overB
    rw [List.any_eq_false]
    intro L hL
    rw [List.eq_of_mem_replicate hL]; decide
  have hba := base_any hbe hP3 HK.out hS3 hRI hov
  have HBW : Hid (W.heap.size ≤ be) := by show _ ≤ _; rw [ebe]; exact HF1.out.size
  have HBE := hid_of hbe
  have HS3 := hid_of hS3
  have HF3 := hid_of (HF1.out.trans hF3)
  have HP3 := hid_of hP3
  have HE3 := hid_of hE3
  have HRI := hid_of hRI
  clear hx3 ebe hO3 hS3 hF3 hP3 hE3 hRI hov HF1 HS1 HPL e1 e2 e4 z0 z1
  repeat go_step
  refine hba.mono ?_
  rintro en V4 ⟨bo, O4, rfl, hO4⟩
  have hxe := hO4.ext
  have hbi := basR_inv HRI.out
  have hrl := hO4.relR
  rw [hbi.2] at hrl
  have hst := settleE_any ((hxe.blk (blk_lt HBE.out)).trans HBE.out) HE3.out (HP3.out.ext hxe) HK.out (HS3.out.ext hxe) HRI.out (some ⟨bo, 0, none⟩) p.preds.length _ hrl hbi
  have HXE := hid_of hxe
  clear hba hO4 hxe hbi hrl hbe
  dsimp only
  repeat go_step
  refine hst.mono ?_
  rintro en V5 ⟨P, hPT, hPI, rfl, O5, hF5, hS5⟩
  obtain ⟨cd, hcd⟩ : ∃ cd, cd = (if overB P then (16 : Int) else 0) := ⟨_, rfl⟩
  rw [← hcd]
  have HQ2 : Hid (Q (.returned (.tuple #[.pointer (some ⟨be, 0, none⟩), .int .i64 cd])) V5) := by
    show Q _ _
    rw [HQ.out]
    have hblt : be < V4.heap.size := Nat.lt_of_lt_of_le (blk_lt HBE.out) HXE.out.size
    have hb4 : blk V4 be = some (engE bi bst) := (HXE.out.blk (blk_lt HBE.out)).trans HBE.out
    exact ⟨be, P, O5, A1, by rw [hcd], hPT, hPI, (HF3.out.trans (Fr.of_extends HXE.out)).trans hF5, hS5, hF5.blk hb4 (by rw [HE3.out]; exact isS_no g), (hF5.keep be hblt).trans HE3.out, HBW.out⟩
  clear hst hPT hPI hF5 hS5 hcd
  dsimp only
  go_wp2_with fail
  try go_ret
  exact HQ2.out
end Go.Proofs.Qxb6500787aGreat
