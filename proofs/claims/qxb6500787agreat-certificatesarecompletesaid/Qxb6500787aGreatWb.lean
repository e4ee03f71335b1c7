
import Derived.Test.Qxb6500787aGreatWa
import Derived.StillTailTactics
import Derived.Deep.QuietTactic
import Derived.BigQuiet
import Derived.Deep.RegionHeld
import Derived.Deep.CutRange
import Derived.Laws.ResultCell
import Derived.Laws.Rows
import Derived.DeepKeys
import Derived.DataBytes
import Derived.Laws.StructEq
import Derived.Laws.AppendOwn
import Derived.Laws.MakeOwn
import Derived.Lib.AppendStr
set_option linter.unusedSimpArgs false
set_option linter.unusedVariables false
namespace Go.Proofs.Qxb6500787aGreat
open Go.RowKit Go.Blk
attribute [local go_sem ↓] execOp_load execOp_store execOp_alloc
attribute [local go_sem] Tryz.ld26 Tryz.st26 Tryz.ld27 Tryz.st27 Tryz.ld28 Tryz.st28 Tryz.ld3 Tryz.st3 Tryz.ld29 Tryz.st29 Tryz.ld44 Tryz.st44 Tryz.ld4 Tryz.st4 Tryz.ld50 Tryz.st50 Tryz.ld32 Tryz.st32 Tryz.ld49 Tryz.st49 Tryz.ld68 Tryz.st68 Tryz.ld9 Tryz.st9 Tryz.ld40 Tryz.st40 Tryz.ld138 Tryz.st138 Tryz.ld139 Tryz.st139 Tryz.ld146 Tryz.st146 Tryz.ld183 Tryz.st183 Tryz.ld184 Tryz.st184 Tryz.ld192 Tryz.st192 Tryz.ld195 Tryz.st195 Tryz.ld217 Tryz.st217 Tryz.ld159 Tryz.st159 Tryz.ld142 Tryz.st142 Tryz.ld2 Tryz.st2 Tryz.ld5 Tryz.st5 Tryz.ld12 Tryz.st12 Tryz.ld21 Tryz.st21 Tryz.ld22 Tryz.st22 Tryz.ld24 Tryz.st24 Tryz.ld58 Tryz.st58 Tryz.ld97 Tryz.st97 Tryz.ld101 Tryz.st101 Tryz.ld116 Tryz.st116 Tryz.ld121 Tryz.st121 Tryz.ld135 Tryz.st135 Tryz.ld136 Tryz.st136 Tryz.ld143 Tryz.st143 Tryz.ld148 Tryz.st148 Tryz.ld154 Tryz.st154 Tryz.ld173 Tryz.st173 Tryz.ld187 Tryz.st187 Tryz.ld222 Tryz.st222 Tryz.ld241 Tryz.st241 Tryz.ld248 Tryz.st248 Tryz.ld268 Tryz.st268 Tryz.ld272 Tryz.st272 Tryz.ld153 Tryz.st153 Tryz.ld255 Tryz.st255 Tryz.ld256 Tryz.st256 Tryz.ld129 Tryz.st129 Tryz.ld152 Tryz.st152 Tryz.ld31 Tryz.st31 Tryz.ld46 Tryz.st46 Tryz.ld52 Tryz.st52 Tryz.ld54 Tryz.st54 Tryz.ld60 Tryz.st60 Tryz.ld70 Tryz.st70 Tryz.ld74 Tryz.st74 Tryz.ld93 Tryz.st93 Tryz.ld141 Tryz.st141 Tryz.ld151 Tryz.st151 Tryz.ld170 Tryz.st170 Tryz.ld186 Tryz.st186 Tryz.ld189 Tryz.st189 Tryz.ld194 Tryz.st194 Tryz.ld197 Tryz.st197 Tryz.ld219 Tryz.st219 Tryz.ld224 Tryz.st224 Tryz.ld230 Tryz.st230 Tryz.ld235 Tryz.st235 Tryz.ld243 Tryz.st243 Tryz.ld247 Tryz.st247 Tryz.ld252 Tryz.st252 Tryz.ld258 Tryz.st258 Tryz.al153 Tryz.al255 Tryz.al256 Tryz.al129 Tryz.al152 Tryz.al31 Tryz.al46 Tryz.al52 Tryz.al54 Tryz.al60 Tryz.al70 Tryz.al74 Tryz.al93 Tryz.al141 Tryz.al151 Tryz.al170 Tryz.al186 Tryz.al189 Tryz.al194 Tryz.al197 Tryz.al219 Tryz.al224 Tryz.al230 Tryz.al235 Tryz.al243 Tryz.al247 Tryz.al252 Tryz.al258
attribute [local go_sem] Request.length_enc Request.ok_enc Request.all_get Request.all_set Request.kind_get Request.kind_set Request.blob_get Request.blob_set Request.items_get Request.items_set Request.pred_get Request.pred_set Request.slots_get Request.slots_set Trace.length_enc Trace.ok_enc Trace.all_get Trace.all_set Trace.op_get Trace.op_set Trace.calls_get Trace.calls_set Item.length_enc Item.ok_enc Item.all_get Item.all_set Item.del_get Item.del_set Item.pred_get Item.pred_set Item.args_get Item.args_set Reply.length_enc Reply.ok_enc Reply.all_get Reply.all_set Reply.code_get Reply.code_set Reply.kind_get Reply.kind_set Reply.index_get Reply.index_set Reply.yes_get Reply.yes_set Reply.preds_get Reply.preds_set Reply.rules_get Reply.rules_set Reply.arity_get Reply.arity_set Reply.rows_get Reply.rows_set Reply.fact_get Reply.fact_set Reply.fact_del_get Reply.fact_del_set Reply.fact_pred_get Reply.fact_pred_set Reply.fact_args_get Reply.fact_args_set GEntry.length_enc GEntry.ok_enc GEntry.all_get GEntry.all_set GEntry.seq_get GEntry.seq_set GEntry.kind_get GEntry.kind_set GEntry.code_get GEntry.code_set GOp.length_enc GOp.ok_enc GOp.all_get GOp.all_set GOp.kind_get GOp.kind_set GOp.raw_get GOp.raw_set Reader.length_enc Reader.ok_enc Reader.all_get Reader.all_set Reader.buf_get Reader.buf_set Reader.at__get Reader.at__set Slot.length_enc Slot.ok_enc Slot.all_get Slot.all_set Slot.bound_get Slot.bound_set Slot.name_get Slot.name_set Session.length_enc Session.ok_enc Session.all_get Session.all_set Session.svc_get Session.svc_set Session.buf_get Session.buf_set Session.closed_get Session.closed_set GProgram.length_enc GProgram.ok_enc GProgram.all_get GProgram.all_set GProgram.pool_get GProgram.pool_set GProgram.preds_get GProgram.preds_set GProgram.rules_get GProgram.rules_set GProgram.strata_get GProgram.strata_set PredInfo.length_enc PredInfo.ok_enc PredInfo.all_get PredInfo.all_set PredInfo.arity_get PredInfo.arity_set PredInfo.base_get PredInfo.base_set PredInfo.stratum_get PredInfo.stratum_set Change.length_enc Change.ok_enc Change.all_get Change.all_set Change.del_get Change.del_set Change.pred_get Change.pred_set Change.t_get Change.t_set Store.length_enc Store.ok_enc Store.all_get Store.all_set Store.names_get Store.names_set Store.arity_get Store.arity_set Store.rows_get Store.rows_set Src.length_enc Src.ok_enc Src.all_get Src.all_set Src.b_get Src.b_set Src.at__get Src.at__set Atom.length_enc Atom.ok_enc Atom.all_get Atom.all_set Atom.pred_get Atom.pred_set Atom.args_get Atom.args_set GRule.length_enc GRule.ok_enc GRule.all_get GRule.all_set GRule.head_get GRule.head_set GRule.body_get GRule.body_set GRule.head_pred_get GRule.head_pred_set GRule.head_args_get GRule.head_args_set Cert.length_enc Cert.ok_enc Cert.all_get Cert.all_set Cert.names_get Cert.names_set Cert.nodes_get Cert.nodes_set Fact.length_enc Fact.ok_enc Fact.all_get Fact.all_set Fact.pred_get Fact.pred_set Fact.t_get Fact.t_set Literal.length_enc Literal.ok_enc Literal.all_get Literal.all_set Literal.neg_get Literal.neg_set Literal.atom_get Literal.atom_set Literal.atom_pred_get Literal.atom_pred_set Literal.atom_args_get Literal.atom_args_set Engine.length_enc Engine.ok_enc Engine.all_get Engine.all_set Engine.prog_get Engine.prog_set Engine.st_get Engine.st_set SrcCertm.length_enc SrcCertm.ok_enc SrcCertm.all_get SrcCertm.all_set SrcCertm.b_get SrcCertm.b_set SrcCertm.at__get SrcCertm.at__set GNode.length_enc GNode.ok_enc GNode.all_get GNode.all_set GNode.rule_get GNode.rule_set GNode.pred_get GNode.pred_set GNode.vals_get GNode.vals_set GNode.refs_get GNode.refs_set Term.length_enc Term.ok_enc Term.all_get Term.all_set Term.var_get Term.var_set Term.n_get Term.n_set Env.length_enc Env.ok_enc Env.all_get Env.all_set Env.val_get Env.val_set Env.set_get Env.set_set
attribute [local go_sem] size_put size_ext blk_put free_put blk_alloc free_alloc blk_drew free_drew blk_ext free_ext lookOr_some putOr_some segAt_some cellAt_some storeIn_some put_put put_alloc_new length_arr ok_arr_u8 ok_arr_u32 ok_arr_u64 ok_arr_i64 ok_arr_sl cellsV_agg cellsV_int cellsV_bool cellsV_string cellsV_pointer cellsV_slice cellsV_sl ok_int ok_bool ok_string ok_pointer ok_slice ok_sl toList_arr seg_arr set_arr nth_splice nth_splice0 seg_splice seg_splice0 splice_splice splice_splice0 length_splice_if
attribute [local go_sem ↓] execOp_box
attribute [local go_sem] box_run nth_arr_u8 put_arr_u8 blk_drewN free_drewN put_drewN blk_raw free_raw
/-- A row of names with the slice that holds it. -/
abbrev RD := Sl × List (List UInt8)
def rdV (x : RD) : Value := Sl.val x.1
def rdLe (x y : RD) : Bool := !rlF y.2 x.2
def mrg (A B : List RD) : List RD := List.merge A B rdLe
def cutL (L : List RD) (lo hi : Nat) : List RD := (L.drop lo).take (hi - lo)
theorem cutL_cons {L : List RD} {i hi : Nat} {x : RD} (hx : L[i]? = some x) (hi' : i < hi) : cutL L i hi = x :: cutL L (i + 1) hi := by
  unfold cutL
  rw [dropA_at hx, show hi - i = (hi - (i + 1)) + 1 from by omega, List.take_succ_cons]
theorem cutL_nil {L : List RD} {i hi : Nat} (h : hi ≤ i) : cutL L i hi = [] := by
  unfold cutL
  rw [show hi - i = 0 from by omega, List.take_zero]
theorem cutL_len {L : List RD} {i hi : Nat} (h : hi ≤ L.length) : (cutL L i hi).length = hi - i := by
  unfold cutL
  rw [List.length_take, List.length_drop]; omega
theorem mrg_nil (B : List RD) : mrg [] B = B := by unfold mrg; rw [List.nil_merge]
theorem mrg_nilr (A : List RD) : mrg A [] = A := by unfold mrg; rw [List.merge_right]
theorem mrg_l {x y : RD} {A B : List RD} (h : rdLe x y = true) : mrg (x :: A) (y :: B) = x :: mrg A (y :: B) := by unfold mrg; rw [List.cons_merge_cons_pos _ _ _ h]
theorem mrg_r {x y : RD} {A B : List RD} (h : ¬ rdLe x y = true) : mrg (x :: A) (y :: B) = y :: mrg (x :: A) B := by unfold mrg; rw [List.cons_merge_cons_neg _ _ _ h]
theorem mrg_len (A B : List RD) : (mrg A B).length = A.length + B.length := by unfold mrg; exact List.length_merge _ _ _
/-- What is written so far. -/
def mgC (CD C' : List Value) (lo k : Nat) (pre : List RD) : Prop := C'.length = CD.length ∧ pre.length = k - lo ∧ ∀ q, nth C' q = if lo ≤ q ∧ q < k then (pre[q - lo]?).map rdV else nth CD q
theorem mgC.next {CD C' : List Value} {lo k : Nat} {pre : List RD} (h : mgC CD C' lo k pre) (hlo : lo ≤ k) (hk : k < CD.length) (x : RD) : mgC CD (splice C' k [rdV x]) lo (k + 1) (pre ++ [x]) := by
  have hk' : k < C'.length := by rw [h.1]; exact hk
  refine ⟨(length_splice1 hk').trans h.1, by rw [List.length_append, h.2.1]; simp; omega, fun q => ?_⟩
  rw [splice_nth hk']
  by_cases e : q = k
  · subst e
    rw [if_pos rfl, if_pos ⟨hlo, by omega⟩, List.getElem?_append_right (by rw [h.2.1]; omega), h.2.1]
    simp
  · rw [if_neg e, h.2.2 q]
    by_cases e2 : lo ≤ q ∧ q < k
    · rw [if_pos e2, if_pos ⟨e2.1, by omega⟩, List.getElem?_append_left (by rw [h.2.1]; omega)]
    · rw [if_neg e2, if_neg (by omega)]
def mgI (W : World) (bd bS n cd cs lo mid hi : Nat) (L : List RD) (CD : List Value) (f : Nat → Value) (V : World) : Prop := f 0 = .slice (some ⟨bd, 0, none⟩) n cd ∧ f 1 = .slice (some ⟨bS, 0, none⟩) n cs ∧ f 3 = .int .i64 (mid : Nat) ∧ f 4 = .int .i64 (hi : Nat) ∧ ∃ i j k : Nat, lo ≤ i ∧ i ≤ mid ∧ mid ≤ j ∧ j ≤ hi ∧ k + mid = i + j ∧ f 10 = .int .i64 (i : Nat) ∧ f 11 = .int .i64 (j : Nat) ∧ f 12 = .int .i64 (k : Nat) ∧ Hid (∃ C' pre, OnG W bd V C' ∧ mgC CD C' lo k pre ∧ mrg (cutL L lo mid) (cutL L mid hi) = pre ++ mrg (cutL L i mid) (cutL L j hi))
set_option maxRecDepth 100000 in
theorem frame59m (f : Nat → Value) : frameN 59 f = #[f 0, f 1, f 2, f 3, f 4, f 5, f 6, f 7, f 8, f 9, f 10, f 11, f 12, f 13, f 14, f 15, f 16, f 17, f 18, f 19, f 20, f 21, f 22, f 23, f 24, f 25, f 26, f 27, f 28, f 29, f 30, f 31, f 32, f 33, f 34, f 35, f 36, f 37, f 38, f 39, f 40, f 41, f 42, f 43, f 44, f 45, f 46, f 47, f 48, f 49, f 50, f 51, f 52, f 53, f 54, f 55, f 56, f 57, f 58] := by kernel_rfl
set_option maxRecDepth 20000 in
set_option maxHeartbeats 4000000 in
theorem merge_any {W : World} {bd bS : Nat} {CD CSr : List Value} (hd : blk W bd = some CD) (hf : free W bd = true) (hs : blk W bS = some CSr) (hne : bd ≠ bS) (L : List RD) (n cd cs ar lo mid hi : Nat) (hLn : L.length = n) (hn : n ≤ 100000) (hCD : n ≤ CD.length) (hCl : n ≤ CSr.length) (hCS : ∀ k x, L[k]? = some x → nth CSr k = some (rdV x)) (hro : ∀ x ∈ L, x.1.len = ar ∧ ∀ V C, OnG W bd V C → Rw encS 1 V x.1.a ar x.2) (har : ar ≤ 1000) (h1 : lo ≤ mid) (h2 : mid ≤ hi) (h3 : hi ≤ n) : Calls Tryz.prog 163 #[.slice (some ⟨bd, 0, none⟩) n cd, .slice (some ⟨bS, 0, none⟩) n cs, .int .i64 (lo : Nat), .int .i64 (mid : Nat), .int .i64 (hi : Nat)] W fun e V => e = .returned (.tuple #[]) ∧ ∃ C', OnG W bd V C' ∧ mgC CD C' lo hi (mrg (cutL L lo mid) (cutL L mid hi)) := by
  obtain ⟨Q, hQ⟩ : ∃ Q : Ending → World → Prop, Q = fun e V => e = .returned (.tuple #[]) ∧ ∃ C', OnG W bd V C' ∧ mgC CD C' lo hi (mrg (cutL L lo mid) (cutL L mid hi)) := ⟨_, rfl⟩
  rw [← hQ]
  have HQ := hid_of hQ
  have HS := hid_of hs
  have HCS := hid_of hCS
  have HRO := hid_of hro
  have HLN := hid_of hLn
  have HJ0 : Hid (∃ C' pre, OnG W bd W C' ∧ mgC CD C' lo lo pre ∧ mrg (cutL L lo mid) (cutL L mid hi) = pre ++ mrg (cutL L lo mid) (cutL L mid hi)) := ⟨CD, [], OnG.refl hd hf, ⟨rfl, by simp, fun q => by rw [if_neg (by omega)]⟩, by simp⟩
  have HLT : Hid (bS < W.heap.size) := blk_lt hs
  clear hQ hd hf hs hCS hro hLn
  go_enter Tryz.func163, Tryz.ntmps163
  go_upto_region 2 with fail
  refine wp_loop_f 59 (mgI W bd bS n cd cs lo mid hi L CD) (fun f _ => hi - (intOf (f 12)).toNat) rfl ⟨rfl, rfl, rfl, rfl, lo, mid, lo, by omega, h1, by omega, h2, by omega, rfl, rfl, rfl, HJ0⟩ ?_
  clear HJ0
  intro F V hrel
  obtain ⟨f0, f1, f3, f4, i, j, k, hi1, hi2, hj1, hj2, hk, f10, f11, f12, HJ⟩ := hrel
  have H12 := hid_of f12
  rw [frame59m, f0, f1, f3, f4, f10, f11, f12]
  clear f0 f1 f3 f4 f10 f11 f12
  by_cases hin : k < hi
  rotate_left 1
  · have hin' : ¬ (k : Int) < (hi : Int) := by omega
    obtain ⟨C', pre, q1, q2, q3⟩ := HJ.out
    obtain rfl : k = hi := by omega
    obtain rfl : i = mid := by omega
    obtain rfl : j = k := by omega
    have HP : Hid (Q (.returned (.tuple #[])) V) := by
      show Q _ _
      rw [HQ.out]
      rw [cutL_nil (Nat.le_refl _), cutL_nil (Nat.le_refl _), mrg_nil, List.append_nil] at q3
      rw [q3]
      exact ⟨rfl, C', q1, q2⟩
    clear HJ q1 q2 q3
    go_wp2_with fail
    go_end0
    exact HP.out
  have hin' : (k : Int) < (hi : Int) := by omega
  obtain ⟨C', pre, hOn, hmg, hmr⟩ := HJ.out
  have hbd := hOn.blk
  have hfd := hOn.free
  have hbS : blk V bS = some CSr := (blk_of_heap (hOn.heap bS HLT.out (Ne.symm hne))).trans HS.out
  have hcl : k < C'.length := by rw [hmg.1]; omega
  have k0 : (0 : Int) ≤ (k : Int) := by omega
  have k2 : ((k : Int)).toNat = k := by omega
  have HON := hid_of hOn
  have HMG := hid_of hmg
  have HMR := hid_of hmr
  have kn : (k : Int) < (n : Int) := by omega
  clear HJ hmg hmr hOn
  by_cases hia : i < mid
  rotate_left 1
  · -- the left run is through
    have hia' : ¬ (i : Int) < (mid : Int) := by omega
    have hjh : j < hi := by omega
    obtain ⟨y, hy⟩ : ∃ y, L[j]? = some y := ⟨_, List.getElem?_eq_getElem (by rw [HLN.out]; omega)⟩
    have hyv := HCS.out j y hy
    have j0 : (0 : Int) ≤ (j : Int) := by omega
    have j2 : ((j : Int)).toNat = j := by omega
    have jn : (j : Int) < (n : Int) := by omega
    have jl : j < CSr.length := by omega
    have HJ' : Hid (∃ C2 pre, OnG W bd (put V bd (splice C' k [rdV y])) C2 ∧ mgC CD C2 lo (k + 1) pre ∧ mrg (cutL L lo mid) (cutL L mid hi) = pre ++ mrg (cutL L i mid) (cutL L (j + 1) hi)) := by
      refine ⟨_, pre ++ [y], HON.out.put, HMG.out.next (by omega) (by omega) y, ?_⟩
      rw [HMR.out, cutL_nil (i := i) (by omega), mrg_nil, mrg_nil, cutL_cons hy hjh, List.append_assoc]; rfl
    obtain ⟨yv, hyy⟩ : ∃ yv, yv = rdV y := ⟨_, rfl⟩
    have hyo : okCells 1 [yv] = true := by rw [hyy]; rfl
    have hsl : ∃ ya yn yc, yv = .slice ya yn yc := ⟨y.1.a, y.1.len, y.1.cap, by rw [hyy]; rfl⟩
    obtain ⟨ya, yn, yc, hyE⟩ := hsl
    rw [← hyy, hyE] at hyv HJ'
    clear hyy hyo hyE hy HMR HMG HON
    go_upto_region 4 with fail
    go_quiet (fail)
    go_wp2_with fail
    refine ⟨rfl, rfl, ⟨rfl, rfl, rfl, rfl, i, j + 1, k + 1, hi1, hi2, by omega, by omega, by omega, rfl, ?_, ?_, ?_⟩, ?_⟩
    · show Value.int .i64 _ = _
      go_num
    · show Value.int .i64 _ = _
      go_num
    · obtain ⟨C2, pre2, o1, o2, o3⟩ := HJ'.out
      exact ⟨C2, pre2, ⟨o1.os, o1.tape, o1.output, o1.size, o1.heap, o1.blk, o1.free⟩, o2, o3⟩
    · show hi - (intOf (Value.int .i64 _)).toNat < hi - (intOf (F 12)).toNat
      rw [H12.out]
      simp [intOf]; omega
  have hia' : (i : Int) < (mid : Int) := by omega
  obtain ⟨x, hx⟩ : ∃ x, L[i]? = some x := ⟨_, List.getElem?_eq_getElem (by rw [HLN.out]; omega)⟩
  have hxv := HCS.out i x hx
  have i0 : (0 : Int) ≤ (i : Int) := by omega
  have i2 : ((i : Int)).toNat = i := by omega
  have il : i < CSr.length := by omega
  have iN : (i : Int) < (n : Int) := by omega
  obtain ⟨xlen, HXR⟩ : x.1.len = ar ∧ Hid (∀ V C, OnG W bd V C → Rw encS 1 V x.1.a ar x.2) := HRO.out x (List.mem_of_getElem? hx)
  have hxE : rdV x = .slice x.1.a ar x.1.cap := by rw [← xlen]; rfl
  obtain ⟨xa, hxa⟩ : ∃ xa, xa = x.1.a := ⟨_, rfl⟩
  obtain ⟨xc, hxc⟩ : ∃ xc, xc = x.1.cap := ⟨_, rfl⟩
  rw [← hxa, ← hxc] at hxE
  rw [← hxa] at HXR
  have HXE := hid_of hxE
  rw [hxE] at hxv
  have HJX : Hid (∀ V1, OnG W bd V1 C' → mrg (cutL L i mid) (cutL L j hi) = x :: mrg (cutL L (i + 1) mid) (cutL L j hi) → ∃ C2 pre, OnG W bd (put V1 bd (splice C' k [.slice xa ar xc])) C2 ∧ mgC CD C2 lo (k + 1) pre ∧ mrg (cutL L lo mid) (cutL L mid hi) = pre ++ mrg (cutL L (i + 1) mid) (cutL L j hi)) := by
    intro V1 ho he
    rw [← HXE.out]
    refine ⟨_, pre ++ [x], ho.put, HMG.out.next (by omega) (by omega) x, ?_⟩
    rw [HMR.out, he, List.append_assoc]; rfl
  have HX := hid_of hx
  clear hxa hxc hxE xlen hx
  by_cases hjh : j < hi
  rotate_left 1
  · -- the right run is through
    have hjh' : (j : Int) ≥ (hi : Int) := by omega
    have HJ' := hid_of (HJX.out V HON.out (by rw [cutL_cons HX.out hia, cutL_nil (i := j) (by omega), mrg_nilr, mrg_nilr]))
    clear HJX HMR HMG HX HXR HXE
    go_upto_region 4 with fail
    go_quiet (fail)
    go_wp2_with fail
    refine ⟨rfl, rfl, ⟨rfl, rfl, rfl, rfl, i + 1, j, k + 1, by omega, by omega, by omega, by omega, by omega, ?_, rfl, ?_, ?_⟩, ?_⟩
    · show Value.int .i64 _ = _
      go_num
    · show Value.int .i64 _ = _
      go_num
    · obtain ⟨C2, pre2, o1, o2, o3⟩ := HJ'.out
      exact ⟨C2, pre2, ⟨o1.os, o1.tape, o1.output, o1.size, o1.heap, o1.blk, o1.free⟩, o2, o3⟩
    · show hi - (intOf (Value.int .i64 _)).toNat < hi - (intOf (F 12)).toNat
      rw [H12.out]
      simp [intOf]; omega
  have hjh' : ¬ (j : Int) ≥ (hi : Int) := by omega
  obtain ⟨y, hy⟩ : ∃ y, L[j]? = some y := ⟨_, List.getElem?_eq_getElem (by rw [HLN.out]; omega)⟩
  have hyv := HCS.out j y hy
  have j0 : (0 : Int) ≤ (j : Int) := by omega
  have j2 : ((j : Int)).toNat = j := by omega
  have jn : (j : Int) < (n : Int) := by omega
  have jl : j < CSr.length := by omega
  obtain ⟨ylen, HYR⟩ : y.1.len = ar ∧ Hid (∀ V C, OnG W bd V C → Rw encS 1 V y.1.a ar y.2) := HRO.out y (List.mem_of_getElem? hy)
  have hyE : rdV y = .slice y.1.a ar y.1.cap := by rw [← ylen]; rfl
  obtain ⟨ya, hya⟩ : ∃ ya, ya = y.1.a := ⟨_, rfl⟩
  obtain ⟨yc, hyc⟩ : ∃ yc, yc = y.1.cap := ⟨_, rfl⟩
  rw [← hya, ← hyc] at hyE
  rw [← hya] at HYR
  have HYE := hid_of hyE
  rw [hyE] at hyv
  have HJY : Hid (∀ V1, OnG W bd V1 C' → mrg (cutL L i mid) (cutL L j hi) = y :: mrg (cutL L i mid) (cutL L (j + 1) hi) → ∃ C2 pre, OnG W bd (put V1 bd (splice C' k [.slice ya ar yc])) C2 ∧ mgC CD C2 lo (k + 1) pre ∧ mrg (cutL L lo mid) (cutL L mid hi) = pre ++ mrg (cutL L i mid) (cutL L (j + 1) hi)) := by
    intro V1 ho he
    rw [← HYE.out]
    refine ⟨_, pre ++ [y], ho.put, HMG.out.next (by omega) (by omega) y, ?_⟩
    rw [HMR.out, he, List.append_assoc]; rfl
  have hrl := rowLess_any V.drew ya xa ar yc xc (by omega) y.2 x.2 (HYR.out _ _ HON.out.drew) (HXR.out _ _ HON.out.drew)
  obtain ⟨rb, hrb⟩ : ∃ rb, rb = rlF y.2 x.2 := ⟨_, rfl⟩
  rw [← hrb] at hrl
  have HCX : Hid (rb = false → mrg (cutL L i mid) (cutL L j hi) = x :: mrg (cutL L (i + 1) mid) (cutL L j hi)) := fun e => by
    rw [cutL_cons HX.out hia, cutL_cons hy hjh]
    exact mrg_l (by unfold rdLe; rw [← hrb, e]; rfl)
  have HCY : Hid (rb = true → mrg (cutL L i mid) (cutL L j hi) = y :: mrg (cutL L i mid) (cutL L (j + 1) hi)) := fun e => by
    rw [cutL_cons HX.out hia, cutL_cons hy hjh]
    exact mrg_r (by unfold rdLe; rw [← hrb, e]; decide)
  clear hya hyc hyE ylen hy hrb
  have hSd : blk V.drew bS = some CSr := hbS
  go_upto_region 4 with fail
  refine wp_region_held_drew (S := fun W' => blk W' bS = some CSr) (by kernel_rfl) hSd (fun hHeld => ?_)
  refine wpAnyH_take (i := 0) (oi := ⟨_, _, _, _, _, _⟩) (v := ?_) rfl (by kernel_rfl) (by kernel_rfl) (by kernel_rfl) (fun _ _ _ h => h) (Or.inl ⟨by rfl, ?_⟩) (by assumption) ?_
  rotate_left 1
  · intro W' hSw
    go_simp
    try with_reducible rfl
  try simp only [Act.put, List.setIfInBounds_toArray, List.set_cons_zero, List.set_cons_succ]
  refine wpAnyH_take (i := 1) (oi := ⟨_, _, _, _, _, _⟩) (v := ?_) rfl (by kernel_rfl) (by kernel_rfl) (by kernel_rfl) (fun _ _ _ h => h) (Or.inl ⟨by rfl, ?_⟩) (by assumption) ?_
  rotate_left 1
  · intro W' hSw
    go_simp
    try with_reducible rfl
  try simp only [Act.put, List.setIfInBounds_toArray, List.set_cons_zero, List.set_cons_succ]
  refine wpAnyH_take (i := 2) (oi := ⟨_, _, _, _, _, _⟩) (v := ?_) rfl (by kernel_rfl) (by kernel_rfl) (by kernel_rfl) (fun _ _ _ h => h) (Or.inl ⟨by rfl, ?_⟩) (by assumption) ?_
  rotate_left 1
  · intro W' hSw
    go_simp
    try with_reducible rfl
  try simp only [Act.put, List.setIfInBounds_toArray, List.set_cons_zero, List.set_cons_succ]
  refine wpAnyH_take (i := 3) (oi := ⟨_, _, _, _, _, _⟩) (v := ?_) rfl (by kernel_rfl) (by kernel_rfl) (by kernel_rfl) (fun _ _ _ h => h) (Or.inl ⟨by rfl, ?_⟩) (by assumption) ?_
  rotate_left 1
  · intro W' hSw
    go_simp
    try with_reducible rfl
  try simp only [Act.put, List.setIfInBounds_toArray, List.set_cons_zero, List.set_cons_succ]
  refine wpAnyH_take (i := 4) (oi := ⟨_, _, _, _, _, _⟩) (v := ?_) rfl (by kernel_rfl) (by kernel_rfl) (by kernel_rfl) (fun _ _ _ h => h) (Or.inl ⟨by rfl, ?_⟩) (by assumption) ?_
  rotate_left 1
  · intro W' hSw
    go_simp
    try with_reducible rfl
  try simp only [Act.put, List.setIfInBounds_toArray, List.set_cons_zero, List.set_cons_succ]
  refine wpAnyH_take (i := 5) (oi := ⟨_, _, _, _, _, _⟩) (v := ?_) rfl (by kernel_rfl) (by kernel_rfl) (by kernel_rfl) (fun _ _ _ h => h) (Or.inl ⟨by rfl, ?_⟩) (by assumption) ?_
  rotate_left 1
  · intro W' hSw
    go_simp
    try with_reducible rfl
  try simp only [Act.put, List.setIfInBounds_toArray, List.set_cons_zero, List.set_cons_succ]
  refine wpAnyH_take (i := 6) (oi := ⟨_, _, _, _, _, _⟩) (v := ?_) rfl (by kernel_rfl) (by kernel_rfl) (by kernel_rfl) (fun _ _ _ h => h) (Or.inl ⟨by rfl, ?_⟩) (by assumption) ?_
  rotate_left 1
  · intro W' hSw
    go_simp
    try with_reducible rfl
  try simp only [Act.put, List.setIfInBounds_toArray, List.set_cons_zero, List.set_cons_succ]
  refine wpAnyH_take (i := 7) (oi := ⟨_, _, _, _, _, _⟩) (v := ?_) rfl (by kernel_rfl) (by kernel_rfl) (by kernel_rfl) (fun _ _ _ h => h) (Or.inl ⟨by rfl, ?_⟩) (by assumption) ?_
  rotate_left 1
  · intro W' hSw
    go_simp
    try with_reducible rfl
  try simp only [Act.put, List.setIfInBounds_toArray, List.set_cons_zero, List.set_cons_succ]
  refine wpAnyH_take (i := 8) (oi := ⟨_, _, _, _, _, _⟩) (v := ?_) rfl (by kernel_rfl) (by kernel_rfl) (by kernel_rfl) (fun _ _ _ h => h) (Or.inl ⟨by rfl, ?_⟩) (by assumption) ?_
  rotate_left 1
  · intro W' hSw
    go_simp
    try with_reducible rfl
  try simp only [Act.put, List.setIfInBounds_toArray, List.set_cons_zero, List.set_cons_succ]
  refine wpAnyH_take (i := 9) (oi := ⟨_, _, _, _, _, _⟩) (v := ?_) rfl (by kernel_rfl) (by kernel_rfl) (by kernel_rfl) (fun _ _ _ h => h) (Or.inl ⟨by rfl, ?_⟩) (by assumption) ?_
  rotate_left 1
  · intro W' hSw
    go_simp
    try with_reducible rfl
  try simp only [Act.put, List.setIfInBounds_toArray, List.set_cons_zero, List.set_cons_succ]
  refine wpAnyH_take (i := 10) (oi := ⟨_, _, _, _, _, _⟩) (v := ?_) rfl (by kernel_rfl) (by kernel_rfl) (by kernel_rfl) (fun _ _ _ h => h) (Or.inl ⟨by rfl, ?_⟩) (by assumption) ?_
  rotate_left 1
  · intro W' hSw
    go_simp
    try with_reducible rfl
  try simp only [Act.put, List.setIfInBounds_toArray, List.set_cons_zero, List.set_cons_succ]
  refine wpAnyH_take (i := 11) (oi := ⟨_, _, _, _, _, _⟩) (v := ?_) rfl (by kernel_rfl) (by kernel_rfl) (by kernel_rfl) (fun _ _ _ h => h) (Or.inl ⟨by rfl, ?_⟩) (by assumption) ?_
  rotate_left 1
  · intro W' hSw
    go_simp
    try with_reducible rfl
  try simp only [Act.put, List.setIfInBounds_toArray, List.set_cons_zero, List.set_cons_succ]
  refine wpAnyH_take (i := 12) (oi := ⟨_, _, _, _, _, _⟩) (v := ?_) rfl (by kernel_rfl) (by kernel_rfl) (by kernel_rfl) (fun _ _ _ h => h) (Or.inl ⟨by rfl, ?_⟩) (by assumption) ?_
  rotate_left 1
  · intro W' hSw
    go_simp
    try with_reducible rfl
  try simp only [Act.put, List.setIfInBounds_toArray, List.set_cons_zero, List.set_cons_succ]
  refine wpAnyH_take (i := 13) (oi := ⟨_, _, _, _, _, _⟩) (v := ?_) rfl (by kernel_rfl) (by kernel_rfl) (by kernel_rfl) (fun _ _ _ h => h) (Or.inl ⟨by rfl, ?_⟩) (by assumption) ?_
  rotate_left 1
  · intro W' hSw
    go_simp
    try with_reducible rfl
  try simp only [Act.put, List.setIfInBounds_toArray, List.set_cons_zero, List.set_cons_succ]
  refine wpAnyH_take (i := 14) (oi := ⟨_, _, _, _, _, _⟩) (v := ?_) rfl (by kernel_rfl) (by kernel_rfl) (by kernel_rfl) (fun _ _ _ h => h) (Or.inl ⟨by rfl, ?_⟩) (by assumption) ?_
  rotate_left 1
  · intro W' hSw
    go_simp
    try with_reducible rfl
  try simp only [Act.put, List.setIfInBounds_toArray, List.set_cons_zero, List.set_cons_succ]
  refine wpAnyH_take (i := 15) (oi := ⟨_, _, _, _, _, _⟩) (v := ?_) rfl (by kernel_rfl) (by kernel_rfl) (by kernel_rfl) (fun _ _ _ h => h) (Or.inl ⟨by rfl, ?_⟩) (by assumption) ?_
  rotate_left 1
  · intro W' hSw
    go_simp
    try with_reducible rfl
  try simp only [Act.put, List.setIfInBounds_toArray, List.set_cons_zero, List.set_cons_succ]
  refine wpAnyH_ready (rs := [16]) (by kernel_rfl) (by simp) ?_
  refine AllReadyH.cons (o := ⟨_, _, _, _, _, _⟩) rfl (fun K' hK => ?_) AllReadyH.nil
  go_simp
  refine hrl.mono ?_
  rintro en V2 ⟨rfl, kd, hV2⟩
  dsimp only
  have hOn2 : OnG W bd V2 C' := by rw [hV2]; exact ⟨HON.out.os, HON.out.tape, HON.out.output, HON.out.size, HON.out.heap, HON.out.blk, HON.out.free⟩
  have hS2 : blk V2 bS = some CSr := by rw [hV2]; exact hbS
  clear hV2
  refine hK.out _ _ hS2 (fun hHeld => ?_)
  clear hK K'
  try simp only [Act.put, List.setIfInBounds_toArray, List.set_cons_zero, List.set_cons_succ]
  refine wpAnyH_take (i := 17) (oi := ⟨_, _, _, _, _, _⟩) (v := ?_) rfl (by kernel_rfl) (by kernel_rfl) (by kernel_rfl) (fun _ _ _ h => h) (Or.inl ⟨by rfl, ?_⟩) (by assumption) ?_
  rotate_left 1
  · intro W' hSw
    go_simp
    try with_reducible rfl
  try simp only [Act.put, List.setIfInBounds_toArray, List.set_cons_zero, List.set_cons_succ]
  refine wpAnyH_take (i := 18) (oi := ⟨_, _, _, _, _, _⟩) (v := ?_) rfl (by kernel_rfl) (by kernel_rfl) (by kernel_rfl) (fun _ _ _ h => h) (Or.inl ⟨by rfl, ?_⟩) (by assumption) ?_
  rotate_left 1
  · intro W' hSw
    go_simp
    try with_reducible rfl
  try simp only [Act.put, List.setIfInBounds_toArray, List.set_cons_zero, List.set_cons_succ]
  refine wpAnyH_take (i := 19) (oi := ⟨_, _, _, _, _, _⟩) (v := ?_) rfl (by kernel_rfl) (by kernel_rfl) (by kernel_rfl) (fun _ _ _ h => h) (Or.inl ⟨by rfl, ?_⟩) (by assumption) ?_
  rotate_left 1
  · intro W' hSw
    go_simp
    try with_reducible rfl
  try simp only [Act.put, List.setIfInBounds_toArray, List.set_cons_zero, List.set_cons_succ]
  refine wpAnyH_done (by kernel_rfl) ?_ _
  have HON2 := hid_of hOn2
  clear hOn2 hS2 hrl hSd hbd hfd hbS
  have hbd := HON2.out.blk
  have hfd := HON2.out.free
  have hbS : blk V2 bS = some CSr := (blk_of_heap (HON2.out.heap bS HLT.out (Ne.symm hne))).trans HS.out
  cases rb with
  | false =>
    have HJ' := hid_of (HJX.out V2 HON2.out (HCX.out rfl))
    clear HJX HJY HCX HCY HMR HMG HX HXR HXE HYR HYE HON HON2
    go_wp2_with fail
    refine ⟨rfl, rfl, ⟨rfl, rfl, rfl, rfl, i + 1, j, k + 1, by omega, by omega, by omega, by omega, by omega, ?_, rfl, ?_, HJ'⟩, ?_⟩
    · show Value.int .i64 _ = _
      go_num
    · show Value.int .i64 _ = _
      go_num
    · show hi - (intOf (Value.int .i64 _)).toNat < hi - (intOf (F 12)).toNat
      rw [H12.out]
      simp [intOf]; omega
  | true =>
    have HJ' := hid_of (HJY.out V2 HON2.out (HCY.out rfl))
    clear HJX HJY HCX HCY HMR HMG HX HXR HXE HYR HYE HON HON2
    go_wp2_with fail
    refine ⟨rfl, rfl, ⟨rfl, rfl, rfl, rfl, i, j + 1, k + 1, by omega, by omega, by omega, by omega, by omega, rfl, ?_, ?_, HJ'⟩, ?_⟩
    · show Value.int .i64 _ = _
      go_num
    · show Value.int .i64 _ = _
      go_num
    · show hi - (intOf (Value.int .i64 _)).toNat < hi - (intOf (F 12)).toNat
      rw [H12.out]
      simp [intOf]; omega
end Go.Proofs.Qxb6500787aGreat
