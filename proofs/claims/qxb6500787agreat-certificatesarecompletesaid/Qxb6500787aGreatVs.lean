
import Derived.Test.Qxb6500787aGreatVr
import Derived.StillTailTactics
import Derived.Deep.QuietTactic
import Derived.BigQuiet
import Derived.Deep.RegionHeld
import Derived.Deep.CutRange
import Derived.Laws.ResultCell
import Derived.Laws.Rows
import Derived.DeepKeys
import Derived.DataBytes
import Derived.Laws.StructEq
import Derived.Laws.AppendOwn
import Derived.Laws.MakeOwn
import Derived.Lib.AppendStr
set_option linter.unusedSimpArgs false
set_option linter.unusedVariables false
namespace Go.Proofs.Qxb6500787aGreat
open Go.RowKit Go.Blk
attribute [local go_sem ↓] execOp_load execOp_store execOp_alloc
attribute [local go_sem] Tryz.ld26 Tryz.st26 Tryz.ld27 Tryz.st27 Tryz.ld28 Tryz.st28 Tryz.ld3 Tryz.st3 Tryz.ld29 Tryz.st29 Tryz.ld44 Tryz.st44 Tryz.ld4 Tryz.st4 Tryz.ld50 Tryz.st50 Tryz.ld32 Tryz.st32 Tryz.ld49 Tryz.st49 Tryz.ld68 Tryz.st68 Tryz.ld9 Tryz.st9 Tryz.ld40 Tryz.st40 Tryz.ld138 Tryz.st138 Tryz.ld139 Tryz.st139 Tryz.ld146 Tryz.st146 Tryz.ld183 Tryz.st183 Tryz.ld184 Tryz.st184 Tryz.ld192 Tryz.st192 Tryz.ld195 Tryz.st195 Tryz.ld217 Tryz.st217 Tryz.ld159 Tryz.st159 Tryz.ld142 Tryz.st142 Tryz.ld2 Tryz.st2 Tryz.ld5 Tryz.st5 Tryz.ld12 Tryz.st12 Tryz.ld21 Tryz.st21 Tryz.ld22 Tryz.st22 Tryz.ld24 Tryz.st24 Tryz.ld58 Tryz.st58 Tryz.ld97 Tryz.st97 Tryz.ld101 Tryz.st101 Tryz.ld116 Tryz.st116 Tryz.ld121 Tryz.st121 Tryz.ld135 Tryz.st135 Tryz.ld136 Tryz.st136 Tryz.ld143 Tryz.st143 Tryz.ld148 Tryz.st148 Tryz.ld154 Tryz.st154 Tryz.ld173 Tryz.st173 Tryz.ld187 Tryz.st187 Tryz.ld222 Tryz.st222 Tryz.ld241 Tryz.st241 Tryz.ld248 Tryz.st248 Tryz.ld268 Tryz.st268 Tryz.ld272 Tryz.st272 Tryz.ld153 Tryz.st153 Tryz.ld255 Tryz.st255 Tryz.ld256 Tryz.st256 Tryz.ld129 Tryz.st129 Tryz.ld152 Tryz.st152 Tryz.ld31 Tryz.st31 Tryz.ld46 Tryz.st46 Tryz.ld52 Tryz.st52 Tryz.ld54 Tryz.st54 Tryz.ld60 Tryz.st60 Tryz.ld70 Tryz.st70 Tryz.ld74 Tryz.st74 Tryz.ld93 Tryz.st93 Tryz.ld141 Tryz.st141 Tryz.ld151 Tryz.st151 Tryz.ld170 Tryz.st170 Tryz.ld186 Tryz.st186 Tryz.ld189 Tryz.st189 Tryz.ld194 Tryz.st194 Tryz.ld197 Tryz.st197 Tryz.ld219 Tryz.st219 Tryz.ld224 Tryz.st224 Tryz.ld230 Tryz.st230 Tryz.ld235 Tryz.st235 Tryz.ld243 Tryz.st243 Tryz.ld247 Tryz.st247 Tryz.ld252 Tryz.st252 Tryz.ld258 Tryz.st258 Tryz.al153 Tryz.al255 Tryz.al256 Tryz.al129 Tryz.al152 Tryz.al31 Tryz.al46 Tryz.al52 Tryz.al54 Tryz.al60 Tryz.al70 Tryz.al74 Tryz.al93 Tryz.al141 Tryz.al151 Tryz.al170 Tryz.al186 Tryz.al189 Tryz.al194 Tryz.al197 Tryz.al219 Tryz.al224 Tryz.al230 Tryz.al235 Tryz.al243 Tryz.al247 Tryz.al252 Tryz.al258
attribute [local go_sem] Request.length_enc Request.ok_enc Request.all_get Request.all_set Request.kind_get Request.kind_set Request.blob_get Request.blob_set Request.items_get Request.items_set Request.pred_get Request.pred_set Request.slots_get Request.slots_set Trace.length_enc Trace.ok_enc Trace.all_get Trace.all_set Trace.op_get Trace.op_set Trace.calls_get Trace.calls_set Item.length_enc Item.ok_enc Item.all_get Item.all_set Item.del_get Item.del_set Item.pred_get Item.pred_set Item.args_get Item.args_set Reply.length_enc Reply.ok_enc Reply.all_get Reply.all_set Reply.code_get Reply.code_set Reply.kind_get Reply.kind_set Reply.index_get Reply.index_set Reply.yes_get Reply.yes_set Reply.preds_get Reply.preds_set Reply.rules_get Reply.rules_set Reply.arity_get Reply.arity_set Reply.rows_get Reply.rows_set Reply.fact_get Reply.fact_set Reply.fact_del_get Reply.fact_del_set Reply.fact_pred_get Reply.fact_pred_set Reply.fact_args_get Reply.fact_args_set GEntry.length_enc GEntry.ok_enc GEntry.all_get GEntry.all_set GEntry.seq_get GEntry.seq_set GEntry.kind_get GEntry.kind_set GEntry.code_get GEntry.code_set GOp.length_enc GOp.ok_enc GOp.all_get GOp.all_set GOp.kind_get GOp.kind_set GOp.raw_get GOp.raw_set Reader.length_enc Reader.ok_enc Reader.all_get Reader.all_set Reader.buf_get Reader.buf_set Reader.at__get Reader.at__set Slot.length_enc Slot.ok_enc Slot.all_get Slot.all_set Slot.bound_get Slot.bound_set Slot.name_get Slot.name_set Session.length_enc Session.ok_enc Session.all_get Session.all_set Session.svc_get Session.svc_set Session.buf_get Session.buf_set Session.closed_get Session.closed_set GProgram.length_enc GProgram.ok_enc GProgram.all_get GProgram.all_set GProgram.pool_get GProgram.pool_set GProgram.preds_get GProgram.preds_set GProgram.rules_get GProgram.rules_set GProgram.strata_get GProgram.strata_set PredInfo.length_enc PredInfo.ok_enc PredInfo.all_get PredInfo.all_set PredInfo.arity_get PredInfo.arity_set PredInfo.base_get PredInfo.base_set PredInfo.stratum_get PredInfo.stratum_set Change.length_enc Change.ok_enc Change.all_get Change.all_set Change.del_get Change.del_set Change.pred_get Change.pred_set Change.t_get Change.t_set Store.length_enc Store.ok_enc Store.all_get Store.all_set Store.names_get Store.names_set Store.arity_get Store.arity_set Store.rows_get Store.rows_set Src.length_enc Src.ok_enc Src.all_get Src.all_set Src.b_get Src.b_set Src.at__get Src.at__set Atom.length_enc Atom.ok_enc Atom.all_get Atom.all_set Atom.pred_get Atom.pred_set Atom.args_get Atom.args_set GRule.length_enc GRule.ok_enc GRule.all_get GRule.all_set GRule.head_get GRule.head_set GRule.body_get GRule.body_set GRule.head_pred_get GRule.head_pred_set GRule.head_args_get GRule.head_args_set Cert.length_enc Cert.ok_enc Cert.all_get Cert.all_set Cert.names_get Cert.names_set Cert.nodes_get Cert.nodes_set Fact.length_enc Fact.ok_enc Fact.all_get Fact.all_set Fact.pred_get Fact.pred_set Fact.t_get Fact.t_set Literal.length_enc Literal.ok_enc Literal.all_get Literal.all_set Literal.neg_get Literal.neg_set Literal.atom_get Literal.atom_set Literal.atom_pred_get Literal.atom_pred_set Literal.atom_args_get Literal.atom_args_set Engine.length_enc Engine.ok_enc Engine.all_get Engine.all_set Engine.prog_get Engine.prog_set Engine.st_get Engine.st_set SrcCertm.length_enc SrcCertm.ok_enc SrcCertm.all_get SrcCertm.all_set SrcCertm.b_get SrcCertm.b_set SrcCertm.at__get SrcCertm.at__set GNode.length_enc GNode.ok_enc GNode.all_get GNode.all_set GNode.rule_get GNode.rule_set GNode.pred_get GNode.pred_set GNode.vals_get GNode.vals_set GNode.refs_get GNode.refs_set Term.length_enc Term.ok_enc Term.all_get Term.all_set Term.var_get Term.var_set Term.n_get Term.n_set Env.length_enc Env.ok_enc Env.all_get Env.all_set Env.val_get Env.val_set Env.set_get Env.set_set
attribute [local go_sem] size_put size_ext blk_put free_put blk_alloc free_alloc blk_drew free_drew blk_ext free_ext lookOr_some putOr_some segAt_some cellAt_some storeIn_some put_put put_alloc_new length_arr ok_arr_u8 ok_arr_u32 ok_arr_u64 ok_arr_i64 ok_arr_sl cellsV_agg cellsV_int cellsV_bool cellsV_string cellsV_pointer cellsV_slice cellsV_sl ok_int ok_bool ok_string ok_pointer ok_slice ok_sl toList_arr seg_arr set_arr nth_splice nth_splice0 seg_splice seg_splice0 splice_splice splice_splice0 length_splice_if
attribute [local go_sem ↓] execOp_box
attribute [local go_sem] box_run nth_arr_u8 put_arr_u8 blk_drewN free_drewN put_drewN blk_raw free_raw
/-- The mask and the key of a pattern. -/
def ptM (L : List Slt) : Nat → Nat
  | 0 => 0
  | c + 1 => if (L.getD c (false, [])).1 then ptM L c ||| 2 ^ c else ptM L c
def ptV (N : List (List UInt8)) (L : List Slt) (c : Nat) : Int := if (L.getD c (false, [])).1 then lookF N (L.getD c (false, [])).2 else 0
theorem ptM_lt (L : List Slt) : ∀ c, ptM L c < 2 ^ c
  | 0 => by show 0 < 1; omega
  | c + 1 => by
    have h := ptM_lt L c
    have e : 2 ^ (c + 1) = 2 * 2 ^ c := by rw [Nat.pow_succ]; omega
    unfold ptM
    by_cases h2 : (L.getD c (false, [])).1 = true
    · rw [if_pos h2]
      exact Nat.or_lt_two_pow (by omega) (by omega)
    · rw [if_neg h2]; omega
def mapD (f : RD → RD) : Prop := ∀ x, (f x).2 = x.2
theorem mrg_map {f : RD → RD} (hf : mapD f) (A B : List RD) : (mrg A B).map f = mrg (A.map f) (B.map f) := by
  unfold mrg
  refine List.map_merge (fun a _ b _ => ?_)
  unfold rdLe
  rw [hf a, hf b]
theorem pasN_map {f : RD → RD} (hf : mapD f) : ∀ (m w : Nat) (L : List RD), (pasN m w L).map f = pasN m w (L.map f)
  | 0, _, _ => rfl
  | m + 1, w, L => by
    unfold pasN
    by_cases e : L = []
    · rw [if_pos e, e]; rfl
    · rw [if_neg e, if_neg (fun h => e (List.map_eq_nil_iff.1 h)), List.map_append, mrg_map hf, pasN_map hf m w]
      simp only [List.map_take, List.map_drop]
theorem srtN_map {f : RD → RD} (hf : mapD f) : ∀ (m w : Nat) (L : List RD), (srtN m w L).map f = srtN m w (L.map f)
  | 0, _, _ => rfl
  | m + 1, w, L => by
    unfold srtN
    rw [List.length_map]
    by_cases e : w < L.length
    · rw [if_pos e, if_pos e, srtN_map hf m (2 * w)]
      unfold pasF
      rw [pasN_map hf, List.length_map]
    · rw [if_neg e, if_neg e]
/-- Rows sorted. -/
def srtR (R : List (List (List UInt8))) : List (List (List UInt8)) := (srtF (R.map fun r => (⟨none, 0, 0⟩, r))).map (·.2)
theorem srtF_snd (L : List RD) : (srtF L).map (·.2) = srtR (L.map (·.2)) := by
  unfold srtR
  have h : mapD fun x : RD => ((⟨none, 0, 0⟩ : Sl), x.2) := fun _ => rfl
  have e1 : ((L.map (·.2)).map fun r => ((⟨none, 0, 0⟩ : Sl), r)) = L.map fun x : RD => ((⟨none, 0, 0⟩ : Sl), x.2) := by rw [List.map_map]; rfl
  rw [e1]
  unfold srtF
  rw [List.length_map, ← srtN_map h, List.map_map]
  rfl
theorem srtN_len : ∀ (m w : Nat) (L : List RD), 1 ≤ w → (srtN m w L).length = L.length
  | 0, _, _, _ => rfl
  | m + 1, w, L, hw => by
    unfold srtN
    by_cases e : w < L.length
    · rw [if_pos e, srtN_len m _ _ (by omega), pasF_len hw]
    · rw [if_neg e]
theorem srtF_len (L : List RD) : (srtF L).length = L.length := srtN_len _ _ _ (Nat.le_refl _)
theorem srtN_mem : ∀ (m w : Nat) (L : List RD) (x : RD), x ∈ srtN m w L → x ∈ L
  | 0, _, _, _, h => h
  | m + 1, w, L, x, h => by
    unfold srtN at h
    by_cases e : w < L.length
    · rw [if_pos e] at h
      exact pasN_mem _ _ _ x (srtN_mem m _ _ x h)
    · rw [if_neg e] at h; exact h
theorem srtF_mem {L : List RD} {x : RD} (h : x ∈ srtF L) : x ∈ L := srtN_mem _ _ _ x h
theorem srtR_len (R : List (List (List UInt8))) : (srtR R).length = R.length := by unfold srtR; rw [List.length_map, srtF_len, List.length_map]
theorem srtR_mem {R : List (List (List UInt8))} {r : List (List UInt8)} (h : r ∈ srtR R) : r ∈ R := by
  unfold srtR at h
  obtain ⟨x, hx, rfl⟩ := List.mem_map.1 h
  obtain ⟨r', hr, rfl⟩ := List.mem_map.1 (srtF_mem hx)
  exact hr
/-- The rows of a pattern. -/
def ptRows (t : InsS) (pr : Nat) (L : List Slt) : List Tup := prL (ptM L L.length) (mkT (ptV t.N L) L.length) (rowsAt t.R pr)
/-- A pattern asked for, plainly. -/
def ptQ (t : InsS) (pr : Nat) (L : List Slt) : PRep := if crF t.p pr L.length ≠ 0 then prZ (crF t.p pr L.length) 6 (-1) else ⟨0, 6, -1, false, 0, 0, (L.length : Int), srtR ((ptRows t pr L).map fun x => nmsT t.N x L.length), 0, []⟩
def ptR (s : Sv) (t : InsS) (pr : Nat) (L : List Slt) (q : PRep) (s' : Sv) : Prop := q = ptQ t pr L ∧ s' = if crF t.p pr L.length ≠ 0 then s else s.low t 6
theorem info50 : ∃ i z, Tryz.prog.info? 43 = some i ∧ i.zero = some z ∧ i.size = 1 ∧ i.bytes = 24 ∧ z.cells.size = 1 := by
  have hq : (Tryz.prog.info? 43).map (fun i => (i.zero, i.size, i.bytes)) = some (some (.slice none 0 0), 1, 24) := by kernel_rfl
  cases hx : Tryz.prog.info? 43 with
  | none => rw [hx] at hq; simp at hq
  | some i =>
    rw [hx] at hq
    simp only [Option.map_some, Option.some.injEq, Prod.mk.injEq] at hq
    exact ⟨i, _, rfl, hq.1, hq.2.1, hq.2.2, rfl⟩
theorem el49 : ElT encD1 1 24 61 43 := ⟨Tryz.underlying61, info50, encD1_len, encD1_one, by omega, by omega⟩
theorem bslice49 (w : World) (a : Option Addr) (n c : Nat) : (bsliceOp 61 1 #[(0, .slice a n c)]).run Tryz.prog w = .ok (.value (.slice (some ⟨w.heap.size, 0, none⟩) 1 1)) (w.alloc (.cells (encD1 ⟨a, n, c⟩).toArray 43)) := by kernel_rfl
theorem make49c (w : World) (n : Nat) (hn : n ≤ 100000) : (makeOp 61 (.int .i64 0) (.int .i64 (n : Int))).run Tryz.prog w = .ok (.value (.slice (some ⟨w.heap.size, 0, none⟩) 0 n)) (w.alloc (.cells (madeCells (Value.slice none 0 0).cells (n * 1)) 43)) := by
  obtain ⟨i, hi, hz, hsz, hby⟩ : ∃ i, Tryz.prog.info? 43 = some i ∧ i.zero = some (.slice none 0 0) ∧ i.size = 1 ∧ i.bytes = 24 := by
    have hq : (Tryz.prog.info? 43).map (fun i => (i.zero, i.size, i.bytes)) = some (some (.slice none 0 0), 1, 24) := by kernel_rfl
    cases hx : Tryz.prog.info? 43 with
    | none => rw [hx] at hq; simp at hq
    | some i =>
      rw [hx] at hq
      simp only [Option.map_some, Option.some.injEq, Prod.mk.injEq] at hq
      exact ⟨i, rfl, hq.1, hq.2.1, hq.2.2⟩
  have hr := run_make (P := Tryz.prog) w 61 43 i _ Tryz.underlying61 hi hz .i64 .i64 0 (n : Int) (by omega) (by omega) (by rw [hby]; omega) (by omega)
  unfold makeOp
  rw [Sem.run_bind, hr, hsz, Int.toNat_natCast]
  rfl
theorem slot_at {W : World} {a : Option Addr} {n : Nat} {L : List Slt} (h : Rw encL 2 W a n L) {i : Nat} {x : Slt} (hx : L[i]? = some x) : ∃ b C, a = some ⟨b, 0, none⟩ ∧ blk W b = some C ∧ i * 2 + 2 ≤ C.length ∧ i < n ∧ nth C (i * 2) = some (.bool x.1) ∧ nth C (i * 2 + 1) = some (.string ⟨x.2.toArray⟩) := by
  obtain ⟨b, C, h1, h2, h3, h4⟩ := h.2 i x hx
  have hl : i < n := by rw [← h.1]; exact (List.getElem?_eq_some_iff.1 hx).1
  have h5 : n * 2 = (n - i - 1) * 2 + (i * 2 + 2) := by omega
  exact ⟨b, C, h1, h2, by omega, hl, nth_in (j := 0) h4 (show nth (encL x) 0 = some _ from rfl) (by omega), nth_in (j := 1) h4 (show nth (encL x) 1 = some _ from rfl) (by omega)⟩
def pt1I (W1 : World) (bs b6 b9 pr : Nat) (sa : Option Addr) (sn sc : Nat) (N : List (List UInt8)) (L : List Slt) (f : Nat → Value) (V : World) : Prop := f 0 = .pointer (some ⟨bs, 0, none⟩) ∧ f 1 = .int .i64 (pr : Nat) ∧ f 2 = .slice sa sn sc ∧ f 6 = .pointer (some ⟨b6, 0, none⟩) ∧ f 9 = .pointer (some ⟨b9, 0, none⟩) ∧ ∃ c : Nat, c ≤ sn ∧ f 8 = .int .i64 (ptM L c : Nat) ∧ f 10 = .int .i64 (c : Nat) ∧ Hid (W1.Extends V ∧ blk V b9 = some (arr i64v (mkT (ptV N L) c)) ∧ free V b9 = true)
theorem or_ok : ∀ (m : Fin 16) (k : Fin 4), bits BinOp.or IntKind.i64 ((m.val : Nat) : Int) (wrap64 (2 ^ k.val)) = ((m.val ||| 2 ^ k.val : Nat) : Int) := by decide +kernel
/-- The reply while its rows are laid. -/
def ptE (ar : Nat) (a : Option Addr) (i c : Nat) : Reply := ⟨0, 6, -1, false, 0, 0, (ar : Int), ⟨a, i, c⟩, ⟨false, 0, ⟨none, 0, 0⟩⟩⟩
structure Pt2 (O : Own) (W : World) (bs b4 g : Nat) (s' : Sv) (CS : List Value) (ip ia : Option Addr) (iN ic : Nat) (B8 b12 ar : Nat) (N : List (List UInt8)) (fa : Option Addr) (fn : Nat) (found : List Tup) (i : Nat) (a : Option Addr) (c : Nat) (Ox : Own) (V : World) (br : Nat) (Ds : List Sl) : Prop where
  hc : HC O W bs b4 Ox V g s' CS ip ia iN ic
  rb : blk V b12 = some (Reply.enc (ptE ar a i c))
  rf : free V b12 = true
  ro : Ox b12 = .a 9 9
  row : RowL B8 Ox (.a 9 8) V 43 1 (.slice a i c) Ds.length (Ds.flatMap encD1)
  br : a = some ⟨br, 0, none⟩ ∧ (∃ C, blk V br = some C ∧ i ≤ C.length) ∧ free V br = true ∧ Ox br = .a 9 8
  fd : Rw tpl 4 (core Ox V) fa fn found
  ds : ∀ (k : Nat) (d : Sl) (x : Tup), Ds[k]? = some d → found[k]? = some x → d.len = ar ∧ Rw encS 1 (core Ox V) d.a ar (nmsT N x ar)
  b8 : B8 ≤ V.heap.size
  dl : Ds.length = i
  lo : W.heap.size ≤ b12 ∧ b12 ≠ b4
theorem Pt2.next {O : Own} {W : World} {bs b4 g : Nat} {s' : Sv} {CS : List Value} {ip ia : Option Addr} {iN ic : Nat} {B8 b12 ar : Nat} {N : List (List UInt8)} {fa : Option Addr} {fn : Nat} {found : List Tup} {i : Nat} {a : Option Addr} {c : Nat} {Ox : Own} {V : World} {br : Nat} {Ds : List Sl} (h : Pt2 O W bs b4 g s' CS ip ia iN ic B8 b12 ar N fa fn found i a c Ox V br Ds) (h98 : ∀ k, k < W.heap.size → O k ≠ .a 9 8) (hi : i ≤ 100000) {x : Tup} (hx : found[i]? = some x) {V8 : World} {na : Option Addr} {nc : Nat} (hO : OutG encS 1 9 V.drew V8 na ar nc (nmsT N x ar)) : ∃ a' c' V9, (Builtin.append_ #[61, 61] 61 #[.slice a i c, .slice (some ⟨V8.heap.size, 0, none⟩) 1 1]).run Tryz.prog (V8.alloc (.cells (encD1 ⟨na, ar, nc⟩).toArray 43)) = .ok (.slice a' (i + 1) c') V9 ∧ Fr (fun l => l = .a 9 8) Ox V (lab (lab Ox V.heap.size .no) V8.heap.size (.a 9 8)) V9 ∧ blk V9 b12 = some (Reply.enc (ptE ar a i c)) ∧ free V9 b12 = true ∧ ∃ br', Pt2 O W bs b4 g s' CS ip ia iN ic B8 b12 ar N fa fn found (i + 1) a' c' (lab (lab Ox V.heap.size .no) V8.heap.size (.a 9 8)) (put V9 b12 (Reply.enc (ptE ar a' (i + 1) c'))) br' (Ds ++ [⟨na, ar, nc⟩]) := by
  have hxV : V.Extends V8 := (extd V).trans hO.2.1
  have hF8 : Fr (fun _ => False) Ox V (lab Ox V.heap.size .no) V8 := Fr.grow hxV
  have hr8 := h.row.fr hF8 (fun e => e)
  obtain ⟨a', c', V9, hrun, hrow, hF9⟩ := appL encD1 1 24 61 43 el49.und el49.info el49.len el49.one el49.pos el49.small 61 (⟨na, ar, nc⟩ : Sl) hr8 (Nat.le_trans h.b8 hxV.size) (by rw [h.dl]; omega) (encD1 ⟨na, ar, nc⟩).toArray rfl 1
  have hF : Fr (fun l => l = .a 9 8) Ox V (lab (lab Ox V.heap.size .no) V8.heap.size (.a 9 8)) V9 := (hF8.mono (fun _ e => e.elim)).trans hF9
  obtain ⟨O9, hO9⟩ : ∃ O9, O9 = lab (lab Ox V.heap.size .no) V8.heap.size (.a 9 8) := ⟨_, rfl⟩
  rw [← hO9] at hF hrow hF9 ⊢
  have nb : ¬ (fun l => l = Lab.a 9 8) (Ox b12) := by rw [h.ro]; exact fun e => by cases e
  have hb12 := hF.blk h.rb nb
  have hf12 := hF.free h.rb h.rf nb
  have ho12 : O9 b12 = .a 9 9 := (hF.keep b12 (blk_lt h.rb)).trans h.ro
  have hFp : Fr (fun l => l = .a 9 9) O9 V9 O9 (put V9 b12 (Reply.enc (ptE ar a' (i + 1) c'))) := (Fr.refl _ _ _).put (L := fun l => l = .a 9 9) ho12 _
  have hrow2 := hrow.fr hFp (fun e => by cases e)
  obtain ⟨g', C', z1, z2, z3, z4, z5, -, -, -, -⟩ := hrow2.open encD1_len (by omega)
  have hH9 := h.hc.fr98 hF h98 (fun k hk hl => (h.hc.kp.keep k hk hl).1)
  have hsub : Sub (core Ox V) (core O9 (put V9 b12 (Reply.enc (ptE ar a' (i + 1) c')))) := (Sub.ext (core_fr hF (fun e => by cases e))).trans (Sub.ext (core_fr hFp (fun e => by cases e)))
  refine ⟨a', c', V9, hrun, hF, hb12, hf12, g', ⟨hH9.put99 ho12 ⟨h.lo.2, h.lo.1⟩ _, by rw [blk_put, if_pos rfl, hb12]; rfl, by rw [free_put]; exact hf12, ho12, hrow2, ⟨z1, ⟨C', z2, by omega⟩, z3, z5⟩, h.fd.sub hsub, fun k d x' hk hx' => ?_, by rw [size_put]; exact Nat.le_trans h.b8 hF.size, by rw [List.length_append, h.dl]; rfl, h.lo⟩⟩
  by_cases e : k < i
  · rw [List.getElem?_append_left (by rw [h.dl]; exact e)] at hk
    obtain ⟨q1, q2⟩ := h.ds k d x' hk hx'
    exact ⟨q1, q2.sub hsub⟩
  · have hk2 : k = i := by
      have := (List.getElem?_eq_some_iff.1 hk).1
      rw [List.length_append, h.dl] at this
      simp at this; omega
    subst hk2
    rw [List.getElem?_append_right (by rw [h.dl]; omega), h.dl, Nat.sub_self] at hk
    cases hk
    obtain rfl : x = x' := Option.some.inj (hx.symm.trans hx')
    refine ⟨rfl, ?_⟩
    refine ((OutG.nw el50 hO).sub fun b C hb => ?_)
    obtain ⟨h1, h2⟩ := newc_blk hb
    have h3 : V.heap.size ≤ b := h2
    have h4 := blk_lt h.rb
    have ho : lab Ox V.heap.size .no b = .no := lab_ge h3
    refine blk_core ?_ (by rw [hO9, lab_lt (blk_lt h1)]; exact ho)
    rw [blk_put, if_neg (by omega)]
    exact hF9.blk h1 (by rw [ho]; exact fun e => by cases e)
def pt2I (O : Own) (W : World) (bs b4 g : Nat) (s' : Sv) (CS : List Value) (ip ia : Option Addr) (iN ic : Nat) (B8 b12 ar : Nat) (N : List (List UInt8)) (fa : Option Addr) (fn fc : Nat) (found : List Tup) (f : Nat → Value) (V : World) : Prop := f 0 = .pointer (some ⟨bs, 0, none⟩) ∧ f 6 = .pointer (some ⟨b4, 0, none⟩) ∧ f 11 = .slice fa fn fc ∧ f 12 = .pointer (some ⟨b12, 0, none⟩) ∧ ∃ i : Nat, i ≤ fn ∧ f 13 = .int .i64 (i : Nat) ∧ Hid (∃ a c Ox br Ds, Pt2 O W bs b4 g s' CS ip ia iN ic B8 b12 ar N fa fn found i a c Ox V br Ds)
attribute [local go_sem ↓] execOp_build execOp_bslice execOp_make
attribute [local go_sem] bslice49 make49c
set_option maxRecDepth 100000 in
theorem frame104p (f : Nat → Value) : frameN 104 f = #[f 0, f 1, f 2, f 3, f 4, f 5, f 6, f 7, f 8, f 9, f 10, f 11, f 12, f 13, f 14, f 15, f 16, f 17, f 18, f 19, f 20, f 21, f 22, f 23, f 24, f 25, f 26, f 27, f 28, f 29, f 30, f 31, f 32, f 33, f 34, f 35, f 36, f 37, f 38, f 39, f 40, f 41, f 42, f 43, f 44, f 45, f 46, f 47, f 48, f 49, f 50, f 51, f 52, f 53, f 54, f 55, f 56, f 57, f 58, f 59, f 60, f 61, f 62, f 63, f 64, f 65, f 66, f 67, f 68, f 69, f 70, f 71, f 72, f 73, f 74, f 75, f 76, f 77, f 78, f 79, f 80, f 81, f 82, f 83, f 84, f 85, f 86, f 87, f 88, f 89, f 90, f 91, f 92, f 93, f 94, f 95, f 96, f 97, f 98, f 99, f 100, f 101, f 102, f 103] := by kernel_rfl
set_option maxRecDepth 40000 in
set_option maxHeartbeats 4000000 in
theorem hpattern_any {O : Own} {W : World} {bs g : Nat} {s : Sv} {CS : List Value} {ip ia : Option Addr} {iN ic : Nat} (h : SvM O W bs g s CS ip ia iN ic) (hlow : Low O) {t : InsS} (ht : s.inst = some t) (hok : InOk t) (hcl : 0 ≤ s.calls ∧ s.calls ≤ 100) (pr : Nat) (sa : Option Addr) (sn sc : Nat) (L : List Slt) (hL : Rw encL 2 (core O W) sa sn L) (hn : sn ≤ 4) : Calls Tryz.prog 104 #[.pointer (some ⟨bs, 0, none⟩), .int .i64 (pr : Nat), .slice sa sn sc] W (HdG O W bs (ptR s t pr L)) := by
  obtain ⟨Q, hQ⟩ : ∃ Q, Q = HdG O W bs (ptR s t pr L) := ⟨_, rfl⟩
  rw [← hQ]
  have HQ := hid_of hQ
  have HM := hid_of h
  have HT := hid_of ht
  have HOK := hid_of hok
  have HL := hid_of hL
  have HLOW := hid_of hlow
  obtain ⟨B, bi, rfl, hB, hI⟩ := h.ins t ht
  have HI := hid_of hI
  have c0 := h.c.c0
  have l0 : 0 < CS.length := by rw [h.c.len]; omega
  have hgl := h.gl
  have hll : L.length = sn := hL.1
  have HLL := hid_of hll
  clear hQ h ht hok hL hB hI hlow hll
  go_enter Tryz.func104, Tryz.ntmps104
  go_upto_region 1 with fail
  refine wp_world (fun V => W.Extends V ∧ blk V W.heap.size = some Reply.zero.enc ∧ free V W.heap.size = true ∧ V.heap.size = W.heap.size + 1) ⟨extends_alloc (ext_Ext (Ext.refl _)) _, ?_, ?_, ?_⟩ ?_
  · rw [blk_alloc, if_pos rfl]; try rfl
  · rw [free_alloc, if_pos rfl]
  · rw [World.size_alloc]
  rintro W1 ⟨hx1, hb4, hf4, hsz1⟩
  obtain ⟨O1, hO1⟩ : ∃ O1, O1 = lab O W.heap.size (.a 9 9) := ⟨_, rfl⟩
  have hF1 : Fr (fun _ => False) O W O1 W1 := by rw [hO1]; exact ⟨hx1.os, hx1.tape, hx1.output, hx1.size, fun k hk => lab_lt hk, fun k hk _ => hx1.block k hk⟩
  obtain ⟨b4, e4⟩ : ∃ b4, b4 = W.heap.size := ⟨_, rfl⟩
  rw [← e4] at hb4 hf4 ⊢
  have ho4 : O1 b4 = .a 9 9 := by rw [hO1, e4]; exact lab_ge (by omega)
  have hH1 : HC O W bs b4 O1 W1 g s CS (some ⟨bi, 0, none⟩) ia iN ic := ⟨Kp.fr hF1 (fun _ _ e => e), HM.out.frF hF1, by omega, hb4, hf4, ho4⟩
  have hbs1 := hH1.sv.cell
  have hpc : ProgC W1 bi t.p := by
    obtain ⟨CI, bst, be, A, hm⟩ := HI.out.ext hx1
    exact ProgL.c hm.progL
  have hcr := checkRead_any hpc pr sn
  obtain ⟨cd, hcd⟩ : ∃ cd, cd = crF t.p pr sn := ⟨_, rfl⟩
  rw [← hcd] at hcr
  have HCD := hid_of hcd
  have HH1 := hid_of hH1
  have HF1 := hid_of hF1
  have HI1 : Hid (InsAt B O W1 g bi t) := HI.out.ext hx1
  have HBI : Hid (bi < W1.heap.size) := by
    obtain ⟨CI, bst, be, A, hm⟩ := HI.out.ext hx1
    exact blk_lt hm.cell
  clear hx1 hsz1 hO1 hF1 e4 ho4 hH1 hpc hcd hb4 hf4
  go_wp2_with fail
  refine hcr.mono ?_
  rintro e V9 ⟨rfl, e9⟩
  replace e9 := e9.symm
  subst e9
  dsimp only
  clear hcr
  by_cases hc0 : cd = 0
  rotate_left 1
  · have hrf := refuse_any W1 6 cd
    have HRP : Hid (∀ V, W1.Extends V → Q (.returned (.agg (Reply.enc (repZ cd 6 (-1))).toArray)) (put V b4 (Reply.enc (repZ cd 6 (-1))))) := fun V hx => by
      rw [HQ.out]
      exact (HH1.out.ext hx).finG HLOW.out (⟨by unfold ptQ; rw [if_pos (by rw [HLL.out, ← HCD.out]; exact hc0), HLL.out, ← HCD.out]; rfl, by rw [if_pos (by rw [HLL.out, ← HCD.out]; exact hc0)]⟩) ((bare_Z _ _ _).c _)
    have HB4 : Hid (blk W1 b4 = some Reply.zero.enc ∧ free W1 b4 = true) := ⟨HH1.out.rc, HH1.out.rf⟩
    have rl := Reply.length_enc (repZ cd 6 (-1))
    have ro := Reply.ok_enc (repZ cd 6 (-1))
    have rs := Reply.all_set Reply.zero (repZ cd 6 (-1))
    obtain ⟨RE, hRE⟩ : ∃ RE, RE = Reply.enc (repZ cd 6 (-1)) := ⟨_, rfl⟩
    rw [← hRE] at hrf HRP rl ro rs
    clear hRE
    have hcb : (cd != 0) = true := by simp [hc0]
    clear hc0
    go_wp2_with fail
    refine hrf.mono ?_
    rintro e Vr ⟨rfl, hxr⟩
    have hb4 := (hxr.blk (blk_lt HB4.out.1)).trans HB4.out.1
    have hf4 := (free_of_heap (hxr.block b4 (blk_lt HB4.out.1))).trans HB4.out.2
    have HP := hid_of (HRP.out Vr hxr)
    clear hrf hxr HRP
    dsimp only
    go_wp2_with fail
    refine ret_cell (C := RE) rfl rfl ?_ (by kernel_rfl) (by rw [rl]; kernel_rfl) rfl HP.out
    first | (rw [blk_put, if_pos rfl, hb4]; rfl) | (simp only [blk_put, if_true, hb4, Option.map_some]; try rfl)
  have HCR : Hid (¬ crF t.p pr L.length ≠ 0) := fun h9 => h9 (by rw [HLL.out, ← HCD.out]; exact hc0)
  have hprn : pr < t.p.preds.length ∧ arP t.p pr = sn := by
    have h9 := HCD.out
    rw [hc0] at h9
    unfold crF at h9
    by_cases e : t.p.preds.length ≤ pr
    · rw [if_pos e] at h9; cases h9
    · rw [if_neg e] at h9
      by_cases e2 : (sn : Int) ≠ (pI t.p pr).arity
      · rw [if_pos e2] at h9; cases h9
      · have e3 : (sn : Int) = (pI t.p pr).arity := Decidable.of_not_not e2
        refine ⟨by omega, ?_⟩
        unfold arP
        omega
  subst hc0
  have HPR := hid_of hprn
  clear hprn HCD
  go_upto_region 7 with fail
  refine wp_world (fun V => W1.Extends V ∧ blk V W1.heap.size = some (arr i64v (mkT (ptV t.N L) 0)) ∧ free V W1.heap.size = true) ⟨extends_alloc (ext_Ext (Ext.refl _)) _, ?_, ?_⟩ ?_
  · rw [blk_alloc, if_pos rfl, mkT_zero]; try rfl
  · rw [free_alloc, if_pos rfl]
  rintro V0 ⟨hx0, hb9, hf9⟩
  obtain ⟨b9, e9⟩ : ∃ b9, b9 = W1.heap.size := ⟨_, rfl⟩
  rw [← e9] at hb9 hf9 ⊢
  have HW9 : Hid (W1.heap.size ≤ b9) := Nat.le_of_eq e9.symm
  have HB1 : Hid (blk W1 bs = some CS) := hbs1
  have HJ0 : Hid (W1.Extends V0 ∧ blk V0 b9 = some (arr i64v (mkT (ptV t.N L) 0)) ∧ free V0 b9 = true) := ⟨hx0, hb9, hf9⟩
  clear hx0 hb9 hf9 e9 hbs1
  refine wp_loop_f 104 (pt1I W1 bs b4 b9 pr sa sn sc t.N L) (fun f _ => sn - (intOf (f 10)).toNat) rfl ⟨rfl, rfl, rfl, rfl, rfl, 0, by omega, rfl, rfl, HJ0⟩ ?_
  clear HJ0
  intro F V hrel
  obtain ⟨f0, f1, f2, f6, f9, k, hk, f8, f10, HJ⟩ := hrel
  have H10 := hid_of f10
  rw [frame104p, f0, f1, f2, f6, f8, f9, f10]
  clear f0 f1 f2 f6 f8 f9 f10
  have hbs : blk V bs = some CS := (HJ.out.1.blk (blk_lt HB1.out)).trans HB1.out
  by_cases hin : k < sn
  · have hin' : (k : Int) < (sn : Int) := by omega
    have k0 : (0 : Int) ≤ (k : Int) := by omega
    have k2 : ((k : Int)).toNat = k := by omega
    obtain ⟨x, hx⟩ : ∃ x, L[k]? = some x := ⟨_, List.getElem?_eq_getElem (by rw [HLL.out]; exact hin)⟩
    have hLV : Rw encL 2 W1 sa sn L := (HL.out.sub (Sub.ext (core_fr HF1.out (fun e => e)))).uncore
    obtain ⟨bL, CL, rfl, r2', r3, r4, r5, r6⟩ := slot_at hLV hx
    have r2 : blk V bL = some CL := (HJ.out.1.blk (blk_lt r2')).trans r2'
    have HBL : Hid (bL < W1.heap.size) := blk_lt r2'
    clear r2'
    have hgd : L.getD k (false, []) = x := by rw [List.getD_eq_getElem?_getD, hx]; rfl
    have q0 : k * 2 < CL.length := by omega
    have q1 : k * 2 + 1 < CL.length := by omega
    have hk4 : k < 4 := by omega
    have hk4' : (k : Int) < 4 := by omega
    have hk3 : k ≤ 3 := by omega
    obtain ⟨bd, nm⟩ := x
    dsimp only at r5 r6
    have HGD := hid_of hgd
    have hmlt := ptM_lt L k
    cases bd with
    | false =>
      have hm1 : ptM L (k + 1) = ptM L k := by
        show (if (L.getD k (false, [])).1 then _ else _) = _
        rw [HGD.out]; rfl
      have hv1 : mkT (ptV t.N L) (k + 1) = mkT (ptV t.N L) k := by
        refine tg_ext fun c hc => ?_
        rw [tg_mkT _ _ _ hc, tg_mkT _ _ _ hc]
        by_cases e : c < k
        · rw [if_pos e, if_pos (by omega)]
        · rw [if_neg e]
          by_cases e2 : c = k
          · subst e2
            rw [if_pos (by omega)]
            unfold ptV
            rw [HGD.out]; rfl
          · rw [if_neg (by omega)]
      have HJ' : Hid (W1.Extends V ∧ blk V b9 = some (arr i64v (mkT (ptV t.N L) (k + 1))) ∧ free V b9 = true) := by rw [hv1]; exact HJ.out
      obtain ⟨mm, hmm⟩ : ∃ mm, mm = ptM L k := ⟨_, rfl⟩
      rw [← hmm]
      have HMM : Hid (ptM L (k + 1) = mm) := hm1.trans hmm.symm
      clear hx hLV hgd hmlt hm1 hv1 hmm HJ
      go_wp2_with fail
      refine ⟨rfl, rfl, ⟨rfl, rfl, rfl, rfl, rfl, k + 1, by omega, ?_, ?_, HJ'⟩, ?_⟩
      · rw [HMM.out]; rfl
      · show Value.int .i64 _ = _
        go_num
      · show sn - (intOf (Value.int .i64 _)).toNat < sn - (intOf (F 10)).toNat
        rw [H10.out]
        simp [intOf]; omega
    | true =>
      obtain ⟨mm, hmm⟩ : ∃ mm, mm = ptM L k := ⟨_, rfl⟩
      rw [← hmm] at hmlt ⊢
      have hm16 : mm < 16 := by
        have : 2 ^ k ≤ 2 ^ 4 := Nat.pow_le_pow_right (by omega) (by omega)
        omega
      have hm1 : ptM L (k + 1) = mm ||| 2 ^ k := by
        show (if (L.getD k (false, [])).1 then _ else _) = _
        rw [HGD.out, hmm]; rfl
      have hv1 : ptV t.N L k = lookF t.N nm := by unfold ptV; rw [HGD.out]; rfl
      have HM1 := hid_of hm1
      have HV1 := hid_of hv1
      have HMM := hid_of hmm
      clear hm1 hv1 hmm hgd hx hLV
      have hor : bits BinOp.or IntKind.i64 (mm : Int) (wrap64 (2 ^ k)) = ((mm ||| 2 ^ k : Nat) : Int) := or_ok ⟨mm, hm16⟩ ⟨k, hk4⟩
      obtain ⟨CI, bst, be, A, hmI⟩ := HI1.out.ext HJ.out.1
      have ci4 := hmI.ic.c4
      have cil : 4 < CI.length := by rw [hmI.ic.len]; omega
      have hlk := lookup_any (hmI.ext (extd V)).st (by have := HOK.out.nl; omega) nm
      have HLV : Hid (blk V bs = some CS ∧ blk V bi = some CI ∧ blk V bL = some CL) := ⟨hbs, hmI.cell, r2⟩
      have n9s : ¬ b9 = bs := fun e => by have h1 := blk_lt HB1.out; have h2 := HW9.out; omega
      have n9i : ¬ b9 = bi := fun e => by have h1 := HBI.out; have h2 := HW9.out; omega
      have n9L : ¬ b9 = bL := fun e => by have h1 := HBL.out; have h2 := HW9.out; omega
      have hb9 := HJ.out.2.1
      have hf9 := HJ.out.2.2
      obtain ⟨lv, hlv⟩ : ∃ lv, lv = lookF t.N nm := ⟨_, rfl⟩
      rw [← hlv] at hlk
      have hput : splice (arr i64v (mkT (ptV t.N L) k)) k [.int .i64 lv] = arr i64v (mkT (ptV t.N L) (k + 1)) := mkT_put _ hk4 (by rw [HV1.out, hlv])
      have al9 : (arr i64v (mkT (ptV t.N L) k)).length = 4 := length_arr _ _
      have kl9 : k + 1 ≤ (arr i64v (mkT (ptV t.N L) k)).length := by omega
      have HJ' : Hid (W1.Extends (put V.drew b9 (arr i64v (mkT (ptV t.N L) (k + 1)))) ∧ blk (put V.drew b9 (arr i64v (mkT (ptV t.N L) (k + 1)))) b9 = some (arr i64v (mkT (ptV t.N L) (k + 1))) ∧ free (put V.drew b9 (arr i64v (mkT (ptV t.N L) (k + 1)))) b9 = true) := ⟨extends_put (HJ.out.1.trans (extd V)) HW9.out _, by rw [blk_put, if_pos rfl]; show (blk V b9).map _ = _; rw [hb9]; rfl, by rw [free_put]; exact hf9⟩
      have hSd : blk V.drew bs = some CS ∧ blk V.drew bi = some CI ∧ blk V.drew bL = some CL := HLV.out
      have hSP : ∀ C, blk (put V.drew b9 C) bs = some CS ∧ blk (put V.drew b9 C) bi = some CI ∧ blk (put V.drew b9 C) bL = some CL := fun C => ⟨by rw [blk_put, if_neg (Ne.symm n9s)]; exact HLV.out.1, by rw [blk_put, if_neg (Ne.symm n9i)]; exact HLV.out.2.1, by rw [blk_put, if_neg (Ne.symm n9L)]; exact HLV.out.2.2⟩
      obtain ⟨A9, hA9⟩ : ∃ A9, A9 = arr i64v (mkT (ptV t.N L) k) := ⟨_, rfl⟩
      obtain ⟨A9', hA9'⟩ : ∃ A9', A9' = arr i64v (mkT (ptV t.N L) (k + 1)) := ⟨_, rfl⟩
      rw [← hA9] at hput al9 kl9 hb9
      rw [← hA9'] at hput HJ'
      have HA9 := hid_of hA9'
      clear hlv hmI hA9 hA9' HMM
      go_upto_region 11 with fail
      refine wp_region_held_drew (S := fun W' => blk W' bs = some CS ∧ blk W' bi = some CI ∧ blk W' bL = some CL) (by kernel_rfl) hSd (fun hHeld => ?_)
      refine wpAnyH_take (i := 0) (oi := ⟨_, _, _, _, _, _⟩) (v := ?_) rfl (by kernel_rfl) (by kernel_rfl) (by kernel_rfl) (fun _ _ _ h => h) (Or.inl ⟨by rfl, ?_⟩) (by assumption) ?_
      rotate_left 1
      · intro W' hSw
        obtain ⟨hS1, hS2, hS3⟩ := hSw
        go_simp
        try with_reducible rfl
      try simp only [Act.put, List.setIfInBounds_toArray, List.set_cons_zero, List.set_cons_succ]
      refine wpAnyH_take (i := 1) (oi := ⟨_, _, _, _, _, _⟩) (v := ?_) rfl (by kernel_rfl) (by kernel_rfl) (by kernel_rfl) (fun _ _ _ h => h) (Or.inl ⟨by rfl, ?_⟩) (by assumption) ?_
      rotate_left 1
      · intro W' hSw
        obtain ⟨hS1, hS2, hS3⟩ := hSw
        go_simp
        try with_reducible rfl
      try simp only [Act.put, List.setIfInBounds_toArray, List.set_cons_zero, List.set_cons_succ]
      refine wpAnyH_take (i := 2) (oi := ⟨_, _, _, _, _, _⟩) (v := ?_) rfl (by kernel_rfl) (by kernel_rfl) (by kernel_rfl) (fun _ _ _ h => h) (Or.inl ⟨by rfl, ?_⟩) (by assumption) ?_
      rotate_left 1
      · intro W' hSw
        obtain ⟨hS1, hS2, hS3⟩ := hSw
        go_simp
        try with_reducible rfl
      try simp only [Act.put, List.setIfInBounds_toArray, List.set_cons_zero, List.set_cons_succ]
      refine wpAnyH_take (i := 3) (oi := ⟨_, _, _, _, _, _⟩) (v := ?_) rfl (by kernel_rfl) (by kernel_rfl) (by kernel_rfl) (fun _ _ _ h => h) (Or.inl ⟨by rfl, ?_⟩) (by assumption) ?_
      rotate_left 1
      · intro W' hSw
        obtain ⟨hS1, hS2, hS3⟩ := hSw
        go_simp
        try with_reducible rfl
      try simp only [Act.put, List.setIfInBounds_toArray, List.set_cons_zero, List.set_cons_succ]
      refine wpAnyH_take (i := 4) (oi := ⟨_, _, _, _, _, _⟩) (v := ?_) rfl (by kernel_rfl) (by kernel_rfl) (by kernel_rfl) (fun _ _ _ h => h) (Or.inl ⟨by rfl, ?_⟩) (by assumption) ?_
      rotate_left 1
      · intro W' hSw
        obtain ⟨hS1, hS2, hS3⟩ := hSw
        go_simp
        try with_reducible rfl
      try simp only [Act.put, List.setIfInBounds_toArray, List.set_cons_zero, List.set_cons_succ]
      refine wpAnyH_take (i := 5) (oi := ⟨_, _, _, _, _, _⟩) (v := ?_) rfl (by kernel_rfl) (by kernel_rfl) (by kernel_rfl) (fun _ _ _ h => h) (Or.inl ⟨by rfl, ?_⟩) (by assumption) ?_
      rotate_left 1
      · intro W' hSw
        obtain ⟨hS1, hS2, hS3⟩ := hSw
        go_simp
        try with_reducible rfl
      try simp only [Act.put, List.setIfInBounds_toArray, List.set_cons_zero, List.set_cons_succ]
      refine wpAnyH_take (i := 6) (oi := ⟨_, _, _, _, _, _⟩) (v := ?_) rfl (by kernel_rfl) (by kernel_rfl) (by kernel_rfl) (fun _ _ _ h => h) (Or.inl ⟨by rfl, ?_⟩) (by assumption) ?_
      rotate_left 1
      · intro W' hSw
        obtain ⟨hS1, hS2, hS3⟩ := hSw
        go_simp
        try with_reducible rfl
      try simp only [Act.put, List.setIfInBounds_toArray, List.set_cons_zero, List.set_cons_succ]
      refine wpAnyH_take (i := 7) (oi := ⟨_, _, _, _, _, _⟩) (v := ?_) rfl (by kernel_rfl) (by kernel_rfl) (by kernel_rfl) (fun _ _ _ h => h) (Or.inl ⟨by rfl, ?_⟩) (by assumption) ?_
      rotate_left 1
      · intro W' hSw
        obtain ⟨hS1, hS2, hS3⟩ := hSw
        go_simp
        try with_reducible rfl
      try simp only [Act.put, List.setIfInBounds_toArray, List.set_cons_zero, List.set_cons_succ]
      refine wpAnyH_take (i := 8) (oi := ⟨_, _, _, _, _, _⟩) (v := ?_) rfl (by kernel_rfl) (by kernel_rfl) (by kernel_rfl) (fun _ _ _ h => h) (Or.inl ⟨by rfl, ?_⟩) (by assumption) ?_
      rotate_left 1
      · intro W' hSw
        obtain ⟨hS1, hS2, hS3⟩ := hSw
        go_simp
        try with_reducible rfl
      try simp only [Act.put, List.setIfInBounds_toArray, List.set_cons_zero, List.set_cons_succ]
      refine wpAnyH_take (i := 9) (oi := ⟨_, _, _, _, _, _⟩) (v := ?_) rfl (by kernel_rfl) (by kernel_rfl) (by kernel_rfl) (fun _ _ _ h => h) (Or.inl ⟨by rfl, ?_⟩) (by assumption) ?_
      rotate_left 1
      · intro W' hSw
        obtain ⟨hS1, hS2, hS3⟩ := hSw
        go_simp
        try with_reducible rfl
      try simp only [Act.put, List.setIfInBounds_toArray, List.set_cons_zero, List.set_cons_succ]
      refine wpAnyH_take (i := 10) (oi := ⟨_, _, _, _, _, _⟩) (v := ?_) rfl (by kernel_rfl) (by kernel_rfl) (by kernel_rfl) (fun _ _ _ h => h) (Or.inl ⟨by rfl, ?_⟩) (by assumption) ?_
      rotate_left 1
      · intro W' hSw
        obtain ⟨hS1, hS2, hS3⟩ := hSw
        go_simp
        try with_reducible rfl
      try simp only [Act.put, List.setIfInBounds_toArray, List.set_cons_zero, List.set_cons_succ]
      refine wpAnyH_take (i := 11) (oi := ⟨_, _, _, _, _, _⟩) (v := ?_) rfl (by kernel_rfl) (by kernel_rfl) (by kernel_rfl) (fun _ _ _ h => h) (Or.inl ⟨by rfl, ?_⟩) (by assumption) ?_
      rotate_left 1
      · intro W' hSw
        obtain ⟨hS1, hS2, hS3⟩ := hSw
        go_simp
        try with_reducible rfl
      try simp only [Act.put, List.setIfInBounds_toArray, List.set_cons_zero, List.set_cons_succ]
      refine wpAnyH_take (i := 12) (oi := ⟨_, _, _, _, _, _⟩) (v := ?_) rfl (by kernel_rfl) (by kernel_rfl) (by kernel_rfl) (fun _ _ _ h => h) (Or.inl ⟨by rfl, ?_⟩) (by assumption) ?_
      rotate_left 1
      · intro W' hSw
        obtain ⟨hS1, hS2, hS3⟩ := hSw
        go_simp
        try with_reducible rfl
      try simp only [Act.put, List.setIfInBounds_toArray, List.set_cons_zero, List.set_cons_succ]
      refine wpAnyH_ready (rs := [13]) (by kernel_rfl) (by simp) ?_
      refine AllReadyH.cons (o := ⟨_, _, _, _, _, _⟩) rfl (fun K' hK => ?_) AllReadyH.nil
      go_simp
      refine hlk.mono ?_
      rintro en V9 ⟨rfl, e9⟩
      subst e9
      dsimp only
      refine hK.out _ _ hSd (fun hHeld => ?_)
      clear hK K'
      try simp only [Act.put, List.setIfInBounds_toArray, List.set_cons_zero, List.set_cons_succ]
      refine wpAnyH_take (i := 14) (oi := ⟨_, _, _, _, _, _⟩) (v := ?_) rfl (by kernel_rfl) (by kernel_rfl) (by kernel_rfl) (fun _ _ _ h => h) (Or.inl ⟨by rfl, ?_⟩) (by assumption) ?_
      rotate_left 1
      · intro W' hSw
        obtain ⟨hS1, hS2, hS3⟩ := hSw
        go_simp
        try with_reducible rfl
      try simp only [Act.put, List.setIfInBounds_toArray, List.set_cons_zero, List.set_cons_succ]
      refine wpAnyH_ready (rs := [15]) (by kernel_rfl) (by simp) ?_
      refine AllReadyH.cons (o := ⟨_, _, _, _, _, _⟩) rfl (fun K' hK => ?_) AllReadyH.nil
      go_simp
      refine hK.out _ _ (hSP _) (fun hHeld => ?_)
      clear hK K'
      try simp only [Act.put, List.setIfInBounds_toArray, List.set_cons_zero, List.set_cons_succ]
      refine wpAnyH_done (by kernel_rfl) ?_ _
      go_wp2_with fail
      refine ⟨rfl, rfl, ⟨rfl, rfl, rfl, rfl, rfl, k + 1, by omega, ?_, ?_, ?_⟩, ?_⟩
      · rw [HM1.out]; rfl
      · show Value.int .i64 _ = _
        go_num
      · rw [← HA9.out]; exact HJ'
      · show sn - (intOf (Value.int .i64 _)).toNat < sn - (intOf (F 10)).toNat
        rw [H10.out]
        simp [intOf]; omega
  obtain rfl : k = sn := by omega
  have hin' : ¬ (k : Int) < (k : Int) := by omega
  have HH2 := hid_of (HH1.out.grow HJ.out.1 .no)
  have hlow := lower_any HH2.out.sv.cell HH2.out.sv.fre HH2.out.sv.c.len HH2.out.sv.c.c3 hcl.1 (by omega) 6
  have hb9 := HJ.out.2.1
  have n9s : b9 ≠ bs := fun e => by have h1 := blk_lt HB1.out; have h2 := HW9.out; omega
  have hmlt := ptM_lt L k
  obtain ⟨mm, hmm⟩ : ∃ mm, mm = ptM L k := ⟨_, rfl⟩
  rw [← hmm] at hmlt ⊢
  have hm15 : mm ≤ 15 := by
    have : 2 ^ k ≤ 2 ^ 4 := Nat.pow_le_pow_right (by omega) (by omega)
    omega
  obtain ⟨key, hkey⟩ : ∃ key, key = mkT (ptV t.N L) k := ⟨_, rfl⟩
  rw [← hkey] at hb9
  have HB9 := hid_of hb9
  have HMK : Hid (mm = ptM L k ∧ key = mkT (ptV t.N L) k) := ⟨hmm, hkey⟩
  clear hbs hmlt hmm hkey HJ hb9 c0 l0
  go_wp2_with fail
  refine hlow.mono ?_
  rintro e V2 ⟨rfl, hOn⟩
  dsimp only
  obtain ⟨hFl, hH3⟩ := HH2.out.low 6 hOn
  obtain ⟨CS2, hCS2⟩ : ∃ CS2, CS2 = splice (splice CS 2 [.int .i64 6]) 3 [.int .i64 (s.calls + 1)] := ⟨_, rfl⟩
  rw [← hCS2] at hH3
  have HH3 : Hid (HC O W bs b4 (lab O1 W1.heap.size .no) V2 g (s.low t 6) CS2 (some ⟨bi, 0, none⟩) ia iN ic) := by
    have h9 := hH3
    rw [HT.out] at h9
    exact h9
  have hk9 : blk V2 b9 = some (arr i64v key) := (blk_of_heap (hOn.heap b9 n9s)).trans HB9.out
  obtain ⟨B2, bi2, eip, hB2, hI2⟩ := hH3.sv.ins t HT.out
  have ebi : bi = bi2 := congrArg Addr.block (Option.some.inj eip)
  subst ebi
  have HI2 := hid_of hI2
  obtain ⟨CI, bst, be, A, hm2⟩ := hI2
  have d0 := hH3.sv.c.c0
  have d0l : 0 < CS2.length := by rw [hH3.sv.c.len]; omega
  have ci4 := hm2.ic.c4
  have cil : 4 < CI.length := by rw [hm2.ic.len]; omega
  obtain ⟨rows, hrows⟩ : ∃ rows, t.R[pr]? = some rows := ⟨_, List.getElem?_eq_getElem (by rw [HOK.out.inv.2]; exact HPR.out.1)⟩
  have hr512 : rows.length ≤ 512 := cap_of HOK.out.cap rows (List.mem_of_getElem? hrows)
  have hpb := probe_any (W := V2.drew) (hm2.ext (extd V2)).st hrows (by omega) (by rw [HOK.out.inv.2]; have := HOK.out.pok.nD; omega) mm hm15 key
  obtain ⟨found, hfound⟩ : ∃ found, found = prL mm key rows := ⟨_, rfl⟩
  rw [← hfound] at hpb
  have HFD : Hid (found = ptRows t pr L) := by
    show _ = _
    rw [hfound, HMK.out.1, HMK.out.2]
    unfold ptRows
    rw [rowsAt_some hrows, HLL.out]
  have HFS : Hid (∀ x ∈ found, ∀ c, c < k → 0 ≤ tg x c ∧ (tg x c).toNat < t.N.length) := fun x hx c hc => by
    rw [hfound] at hx
    have hx2 : x ∈ rowsAt t.R pr := by rw [rowsAt_some hrows]; exact (List.mem_filter.1 hx).1
    exact ⟨((HOK.out.inv.1.at pr).2 x hx2 c (by omega)).1, HOK.out.val pr x hx2 c (by rw [HPR.out.2]; exact hc)⟩
  have hfl : found.length ≤ 512 := by rw [hfound]; exact Nat.le_trans (List.length_filter_le _ _) hr512
  have HFL := hid_of hfl
  have hSd : (blk V2.drew bs = some CS2 ∧ blk V2.drew bi = some CI) ∧ blk V2.drew b9 = some (arr i64v key) := ⟨⟨hH3.sv.cell, hm2.cell⟩, hk9⟩
  have HSS : Hid (∀ V, V2.Extends V → (blk V bs = some CS2 ∧ blk V bi = some CI) ∧ blk V b9 = some (arr i64v key)) := fun V hx => ⟨⟨(hx.blk (blk_lt hSd.1.1)).trans hSd.1.1, (hx.blk (blk_lt hSd.1.2)).trans hSd.1.2⟩, (hx.blk (blk_lt hSd.2)).trans hSd.2⟩
  have hlb : (arr i64v key).length = 4 := length_arr _ _
  have sgT : seg (arr i64v key) 0 4 = arr i64v key := seg_all _ _ hlb
  clear hlow hOn hFl hH3 hCS2 hB2 hm2 eip HH1 HH2 HF1 hrows hfound hk9 HMK HB9 HI HI1 hfl hr512
  go_upto_region 13 with fail
  refine wp_region_held_drew (S := fun W' => (blk W' bs = some CS2 ∧ blk W' bi = some CI) ∧ blk W' b9 = some (arr i64v key)) (by kernel_rfl) hSd (fun hHeld => ?_)
  refine wpAnyH_take (i := 0) (oi := ⟨_, _, _, _, _, _⟩) (v := ?_) rfl (by kernel_rfl) (by kernel_rfl) (by kernel_rfl) (fun _ _ _ h => h) (Or.inl ⟨by rfl, ?_⟩) (by assumption) ?_
  rotate_left 1
  · intro W' hSw
    obtain ⟨⟨hS1, hS2⟩, hS3⟩ := hSw
    go_simp
    try with_reducible rfl
  try simp only [Act.put, List.setIfInBounds_toArray, List.set_cons_zero, List.set_cons_succ]
  refine wpAnyH_take (i := 1) (oi := ⟨_, _, _, _, _, _⟩) (v := ?_) rfl (by kernel_rfl) (by kernel_rfl) (by kernel_rfl) (fun _ _ _ h => h) (Or.inl ⟨by rfl, ?_⟩) (by assumption) ?_
  rotate_left 1
  · intro W' hSw
    obtain ⟨⟨hS1, hS2⟩, hS3⟩ := hSw
    go_simp
    try with_reducible rfl
  try simp only [Act.put, List.setIfInBounds_toArray, List.set_cons_zero, List.set_cons_succ]
  refine wpAnyH_take (i := 2) (oi := ⟨_, _, _, _, _, _⟩) (v := ?_) rfl (by kernel_rfl) (by kernel_rfl) (by kernel_rfl) (fun _ _ _ h => h) (Or.inl ⟨by rfl, ?_⟩) (by assumption) ?_
  rotate_left 1
  · intro W' hSw
    obtain ⟨⟨hS1, hS2⟩, hS3⟩ := hSw
    go_simp
    try with_reducible rfl
  try simp only [Act.put, List.setIfInBounds_toArray, List.set_cons_zero, List.set_cons_succ]
  refine wpAnyH_take (i := 3) (oi := ⟨_, _, _, _, _, _⟩) (v := ?_) rfl (by kernel_rfl) (by kernel_rfl) (by kernel_rfl) (fun _ _ _ h => h) (Or.inl ⟨by rfl, ?_⟩) (by assumption) ?_
  rotate_left 1
  · intro W' hSw
    obtain ⟨⟨hS1, hS2⟩, hS3⟩ := hSw
    go_simp
    try with_reducible rfl
  try simp only [Act.put, List.setIfInBounds_toArray, List.set_cons_zero, List.set_cons_succ]
  refine wpAnyH_take (i := 4) (oi := ⟨_, _, _, _, _, _⟩) (v := ?_) rfl (by kernel_rfl) (by kernel_rfl) (by kernel_rfl) (fun _ _ _ h => h) (Or.inl ⟨by rfl, ?_⟩) (by assumption) ?_
  rotate_left 1
  · intro W' hSw
    obtain ⟨⟨hS1, hS2⟩, hS3⟩ := hSw
    go_simp
    try with_reducible rfl
  try simp only [Act.put, List.setIfInBounds_toArray, List.set_cons_zero, List.set_cons_succ]
  refine wpAnyH_take (i := 5) (oi := ⟨_, _, _, _, _, _⟩) (v := ?_) rfl (by kernel_rfl) (by kernel_rfl) (by kernel_rfl) (fun _ _ _ h => h) (Or.inl ⟨by rfl, ?_⟩) (by assumption) ?_
  rotate_left 1
  · intro W' hSw
    obtain ⟨⟨hS1, hS2⟩, hS3⟩ := hSw
    go_simp
    try with_reducible rfl
  try simp only [Act.put, List.setIfInBounds_toArray, List.set_cons_zero, List.set_cons_succ]
  refine wpAnyH_take (i := 6) (oi := ⟨_, _, _, _, _, _⟩) (v := ?_) rfl (by kernel_rfl) (by kernel_rfl) (by kernel_rfl) (fun _ _ _ h => h) (Or.inl ⟨by rfl, ?_⟩) (by assumption) ?_
  rotate_left 1
  · intro W' hSw
    obtain ⟨⟨hS1, hS2⟩, hS3⟩ := hSw
    go_simp
    try with_reducible rfl
  try simp only [Act.put, List.setIfInBounds_toArray, List.set_cons_zero, List.set_cons_succ]
  refine wpAnyH_take (i := 7) (oi := ⟨_, _, _, _, _, _⟩) (v := ?_) rfl (by kernel_rfl) (by kernel_rfl) (by kernel_rfl) (fun _ _ _ h => h) (Or.inl ⟨by rfl, ?_⟩) (by assumption) ?_
  rotate_left 1
  · intro W' hSw
    obtain ⟨⟨hS1, hS2⟩, hS3⟩ := hSw
    go_simp
    try with_reducible rfl
  try simp only [Act.put, List.setIfInBounds_toArray, List.set_cons_zero, List.set_cons_succ]
  refine wpAnyH_take (i := 8) (oi := ⟨_, _, _, _, _, _⟩) (v := ?_) rfl (by kernel_rfl) (by kernel_rfl) (by kernel_rfl) (fun _ _ _ h => h) (Or.inl ⟨by rfl, ?_⟩) (by assumption) ?_
  rotate_left 1
  · intro W' hSw
    obtain ⟨⟨hS1, hS2⟩, hS3⟩ := hSw
    go_simp
    try with_reducible rfl
  try simp only [Act.put, List.setIfInBounds_toArray, List.set_cons_zero, List.set_cons_succ]
  refine wpAnyH_take (i := 9) (oi := ⟨_, _, _, _, _, _⟩) (v := ?_) rfl (by kernel_rfl) (by kernel_rfl) (by kernel_rfl) (fun _ _ _ h => h) (Or.inl ⟨by rfl, ?_⟩) (by assumption) ?_
  rotate_left 1
  · intro W' hSw
    obtain ⟨⟨hS1, hS2⟩, hS3⟩ := hSw
    go_simp
    try with_reducible rfl
  try simp only [Act.put, List.setIfInBounds_toArray, List.set_cons_zero, List.set_cons_succ]
  refine wpAnyH_ready (rs := [10]) (by kernel_rfl) (by simp) ?_
  refine AllReadyH.cons (o := ⟨_, _, _, _, _, _⟩) rfl (fun K' hK => ?_) AllReadyH.nil
  go_simp
  refine hpb.mono ?_
  rintro en V3 ⟨fa, fn, fc, rfl, hO3⟩
  dsimp only
  have hx23 : V2.Extends V3 := (extd V2).trans hO3.2.1
  refine hK.out _ _ (HSS.out _ hx23) (fun hHeld => ?_)
  clear hK K'
  try simp only [Act.put, List.setIfInBounds_toArray, List.set_cons_zero, List.set_cons_succ]
  refine wpAnyH_take (i := 11) (oi := ⟨_, _, _, _, _, _⟩) (v := ?_) rfl (by kernel_rfl) (by kernel_rfl) (by kernel_rfl) (fun _ _ _ h => h) (Or.inl ⟨by rfl, ?_⟩) (by assumption) ?_
  rotate_left 1
  · intro W' hSw
    obtain ⟨⟨hS1, hS2⟩, hS3⟩ := hSw
    go_simp
    try with_reducible rfl
  try simp only [Act.put, List.setIfInBounds_toArray, List.set_cons_zero, List.set_cons_succ]
  refine wpAnyH_done (by kernel_rfl) ?_ _
  clear hpb hSd
  have HX23 := hid_of hx23
  have hfn : fn = found.length := hO3.2.2
  have HFN := hid_of hfn
  have hfn5 : fn ≤ 512 := by have := HFL.out; omega
  have HH4 := hid_of (HH3.out.grow hx23 .no)
  have HRF : Hid (Rw tpl 4 (core (lab (lab O1 W1.heap.size .no) V2.heap.size .no) V3) fa fn found) := outs_core (W := V2.drew) hO3
  obtain ⟨O4, hO4⟩ : ∃ O4, O4 = lab (lab O1 W1.heap.size .no) V2.heap.size .no := ⟨_, rfl⟩
  rw [← hO4] at HH4 HRF
  clear hO4 hO3 hfn hx23 HH3
  have hac := accept_any V3 6
  obtain ⟨RE, hRE⟩ : ∃ RE, RE = Reply.enc (repZ 0 6 (-1)) := ⟨_, rfl⟩
  rw [← hRE] at hac
  have rl : RE.length = 11 := by rw [hRE]; exact Reply.length_enc _
  have ro : okCells 11 RE = true := by rw [hRE]; exact Reply.ok_enc _
  have rs : splice Reply.zero.enc 0 RE = RE := by rw [hRE]; exact Reply.all_set _ _
  have HRE := hid_of hRE
  clear hRE
  go_wp2_with fail
  refine hac.mono ?_
  rintro e V5 ⟨rfl, hx5⟩
  dsimp only
  clear hac
  go_upto_region 15 with fail
  refine wp_world (fun V => V3.Extends V ∧ blk V V5.heap.size = some RE ∧ free V V5.heap.size = true) ⟨hx5.trans (extends_alloc (ext_Ext (Ext.refl _)) _), by rw [blk_alloc, if_pos rfl], by rw [free_alloc, if_pos rfl]⟩ ?_
  rintro V6 ⟨hx6, hb12, hf12⟩
  obtain ⟨b12, e12⟩ : ∃ b12, b12 = V5.heap.size := ⟨_, rfl⟩
  rw [← e12] at hb12 hf12 ⊢
  have HW12 : Hid (V3.heap.size ≤ b12) := by show _ ≤ _; rw [e12]; exact hx5.size
  obtain ⟨RE1, hRE1⟩ : ∃ RE1, RE1 = splice RE 6 [.int .i64 (k : Int)] := ⟨_, rfl⟩
  have r1l : RE1.length = 11 := by rw [hRE1, length_splice1 (by omega)]; exact rl
  have re1 : splice RE 6 [.int .i64 (k : Int)] = RE1 := hRE1.symm
  have r6 : 6 + 1 ≤ RE.length := by omega
  have r7 : 7 + 1 ≤ RE1.length := by omega
  have HRE2 : Hid (∀ a n c, splice RE1 7 [.slice a n c] = Reply.enc (ptE k a n c)) := fun a n c => by rw [hRE1, HRE.out]; rfl
  have hfn6 : fn ≤ 100000 := by omega
  have hsz12 := blk_lt hb12
  have hrr : splice RE1 7 [.slice (some ⟨V6.heap.size, 0, none⟩) 0 fn] = Reply.enc (ptE k (some ⟨V6.heap.size, 0, none⟩) 0 fn) := HRE2.out _ _ _
  clear hx5 e12 hRE1 rs ro
  go_upto_region 18 with fail
  have HPT : Hid (∃ a c Ox br Ds, Pt2 O W bs b4 g (s.low t 6) CS2 (some ⟨bi, 0, none⟩) ia iN ic V6.heap.size b12 k t.N fa fn found 0 a c Ox (put ((put V6 b12 RE1).alloc (.cells (madeCells (Value.slice none 0 0).cells (fn * 1)) 43)) b12 (Reply.enc (ptE k (some ⟨V6.heap.size, 0, none⟩) 0 fn))) br Ds) := by
    have hFa : Fr (fun _ => False) O4 V3 (lab O4 V3.heap.size (.a 9 9)) (put V6 b12 RE1) := (Fr.put_new (L := fun _ => False) ⟨hx6.os, hx6.tape, hx6.output, hx6.size, fun k hk => lab_lt hk, fun k hk _ => hx6.block k hk⟩ HW12.out _)
    have hxa : (put V6 b12 RE1).Extends ((put V6 b12 RE1).alloc (.cells (madeCells (Value.slice none 0 0).cells (fn * 1)) 43)) := extends_alloc (ext_Ext (Ext.refl _)) _
    have hFb : Fr (fun _ => False) (lab O4 V3.heap.size (.a 9 9)) (put V6 b12 RE1) (lab (lab O4 V3.heap.size (.a 9 9)) V6.heap.size (.a 9 8)) ((put V6 b12 RE1).alloc (.cells (madeCells (Value.slice none 0 0).cells (fn * 1)) 43)) := ⟨hxa.os, hxa.tape, hxa.output, hxa.size, fun k hk => lab_lt (by rw [size_put] at hk; exact hk), fun k hk _ => hxa.block k hk⟩
    have hFab := hFa.trans hFb
    obtain ⟨O6, hO6⟩ : ∃ O6, O6 = lab (lab O4 V3.heap.size (.a 9 9)) V6.heap.size (.a 9 8) := ⟨_, rfl⟩
    rw [← hO6] at hFab hFb
    have ho12 : O6 b12 = .a 9 9 := by rw [hO6, lab_lt hsz12, lab_ge HW12.out]
    have hob : O6 V6.heap.size = .a 9 8 := by rw [hO6]; exact lab_ge (Nat.le_refl _)
    have hba : blk (put V6 b12 RE1) b12 = some RE1 := by rw [blk_put, if_pos rfl, hb12]; rfl
    have hbb : blk ((put V6 b12 RE1).alloc (.cells (madeCells (Value.slice none 0 0).cells (fn * 1)) 43)) b12 = some RE1 := (hxa.blk (blk_lt hba)).trans hba
    have hfb : free ((put V6 b12 RE1).alloc (.cells (madeCells (Value.slice none 0 0).cells (fn * 1)) 43)) b12 = true := (free_of_heap (hxa.block b12 (blk_lt hba))).trans (by rw [free_put]; exact hf12)
    have hne : V6.heap.size ≠ b12 := by omega
    have hown := World.ownsRow_made (base := V6.heap.size) (e := 43) (size := 1) (put V6 b12 RE1) (madeCells (Value.slice none 0 0).cells (fn * 1)) fn (by rw [size_put]; omega) (by simp only [maxLen]; omega) (by simp [madeCells])
    have hFp : Fr (fun l => l = .a 9 9) O6 ((put V6 b12 RE1).alloc (.cells (madeCells (Value.slice none 0 0).cells (fn * 1)) 43)) O6 (put ((put V6 b12 RE1).alloc (.cells (madeCells (Value.slice none 0 0).cells (fn * 1)) 43)) b12 (Reply.enc (ptE k (some ⟨V6.heap.size, 0, none⟩) 0 fn))) := (Fr.refl _ _ _).put (L := fun l => l = .a 9 9) ho12 _
    have hrow : RowL V6.heap.size O6 (.a 9 8) ((put V6 b12 RE1).alloc (.cells (madeCells (Value.slice none 0 0).cells (fn * 1)) 43)) 43 1 (.slice (some ⟨V6.heap.size, 0, none⟩) 0 fn) ([] : List Sl).length (([] : List Sl).flatMap encD1) := by
      refine ⟨by rw [size_put] at hown; exact hown, fun k hk => ?_⟩
      cases hk
      exact hob
    have hblk : blk ((put V6 b12 RE1).alloc (.cells (madeCells (Value.slice none 0 0).cells (fn * 1)) 43)) V6.heap.size = some (madeCells (Value.slice none 0 0).cells (fn * 1)).toList := by rw [blk_alloc, if_pos (by rw [size_put])]
    refine ⟨some ⟨V6.heap.size, 0, none⟩, fn, O6, V6.heap.size, [], ⟨?_, by rw [blk_put, if_pos rfl, hbb]; rfl, by rw [free_put]; exact hfb, ho12, hrow.fr hFp (fun e => by cases e), ⟨rfl, ⟨_, by rw [blk_put, if_neg hne]; exact hblk, by omega⟩, by rw [free_put, free_alloc, if_pos (by rw [size_put])], hob⟩, (HRF.out.sub (Sub.ext (core_fr hFab (fun e => e)))).sub (Sub.ext (core_fr hFp (fun e => by cases e))), fun k d x hk => by simp at hk, by rw [size_put]; exact Nat.le_trans (by rw [size_put]; omega) hxa.size, rfl, ⟨?_, ?_⟩⟩⟩
    · have h9 := HH4.out.fr (hFab.mono (fun _ e => e.elim)) (HH4.out.sv.frF hFab)
      exact h9.put99 ho12 ⟨by have h1 := blk_lt HH4.out.rc; have h2 := HW12.out; omega, by have h1 := HH4.out.kp.size; have h2 := HW12.out; omega⟩ _
    · have h1 := HH4.out.kp.size; have h2 := HW12.out; omega
    · have h1 := blk_lt HH4.out.rc; have h2 := HW12.out; omega
  refine wp_world (fun V => ∃ a c Ox br Ds, Pt2 O W bs b4 g (s.low t 6) CS2 (some ⟨bi, 0, none⟩) ia iN ic V6.heap.size b12 k t.N fa fn found 0 a c Ox V br Ds) (by have h9 := HPT.out; simp only [Nat.mul_one] at h9; exact h9) ?_
  intro V7 hP7
  have HP7 := hid_of hP7
  have H98 : Hid (∀ k, k < W.heap.size → O k ≠ .a 9 8) := fun k _ e => by have := HLOW.out k 9 8 e; omega
  clear HPT hP7 hx6 hb12 hf12 HW12 r1l re1 r6 r7 HRE2 hrr HRE HRF HH4 rl hfn6 HSS HX23
  refine wp_loop_f 104 (pt2I O W bs b4 g (s.low t 6) CS2 (some ⟨bi, 0, none⟩) ia iN ic V6.heap.size b12 k t.N fa fn fc found) (fun f _ => fn - (intOf (f 13)).toNat) rfl ⟨rfl, rfl, rfl, rfl, 0, by omega, rfl, HP7⟩ ?_
  clear HP7
  intro F2 V hrel
  obtain ⟨f0, f6, f11, f12, i, hi, f13, HJ⟩ := hrel
  have H13 := hid_of f13
  rw [frame104p, f0, f6, f11, f12, f13]
  clear f0 f6 f11 f12 f13
  obtain ⟨a, c, Ox, br, Ds, hPt⟩ := HJ.out
  have HPT := hid_of hPt
  have hbs := hPt.hc.sv.cell
  have hb12 := hPt.rb
  have hf12 := hPt.rf
  have n12s : ¬ b12 = bs := fun e => hPt.hc.ns (b := b12) (by rw [hPt.ro]; exact fun e => by cases e) e
  obtain ⟨B2, bi2, eip, hB2, hI2⟩ := hPt.hc.sv.ins t rfl
  have ebi : bi = bi2 := congrArg Addr.block (Option.some.inj eip)
  subst ebi
  have HI3 := hid_of hI2
  obtain ⟨CI, bst, be, A, hm2⟩ := hI2
  have hbi := hm2.cell
  have hoi := hm2.own
  have n12i : ¬ b12 = bi := fun e => by
    have h1 := hPt.ro
    rw [e, hoi] at h1
    have := (Lab.a.inj h1).1
    omega
  have pe7 : nth (Reply.enc (ptE k a i c)) 7 = some (.slice a i c) := rfl
  have pe6 : nth (Reply.enc (ptE k a i c)) 6 = some (.int .i64 (k : Int)) := rfl
  have pel : (Reply.enc (ptE k a i c)).length = 11 := Reply.length_enc _
  obtain ⟨PE2, hPE2⟩ : ∃ PE2, PE2 = Reply.enc (ptE k a i c) := ⟨_, rfl⟩
  rw [← hPE2] at hb12 pe7 pe6 pel
  have HPE2 := hid_of hPE2
  have pl7 : 7 < PE2.length := by omega
  have pl6 : 6 < PE2.length := by omega
  have HOI : Hid (Ox bi = .a (2 * g + 1) 0) := hoi
  clear hm2 hB2 hPE2 eip hoi HJ
  by_cases hin : i < fn
  rotate_left 1
  · obtain rfl : i = fn := by omega
    have hin' : ¬ (i : Int) < (i : Int) := by omega
    obtain ⟨ea, ⟨CR, hbr, hcr⟩, hfr, hor⟩ := hPt.br
    subst ea
    obtain ⟨L0, hL0⟩ : ∃ L0 : List RD, L0 = List.zipWith (fun d x => (d, nmsT t.N x k)) Ds found := ⟨_, rfl⟩
    have hdl := hPt.dl
    have hLn : L0.length = i := by rw [hL0, List.length_zipWith, hdl, ← HFN.out]; omega
    have hget : ∀ q y, L0[q]? = some y → ∃ d x, Ds[q]? = some d ∧ found[q]? = some x ∧ y = (d, nmsT t.N x k) := fun q y hy => by
      rw [hL0, List.getElem?_zipWith] at hy
      cases h1 : Ds[q]? with
      | none => rw [h1] at hy; cases hy
      | some d =>
        cases h2 : found[q]? with
        | none => rw [h1, h2] at hy; cases hy
        | some x => rw [h1, h2] at hy; exact ⟨d, x, h1, h2, (Option.some.inj hy).symm⟩
    have hsnd : L0.map (·.2) = found.map fun x => nmsT t.N x k := by
      refine List.ext_getElem? fun q => ?_
      rw [List.getElem?_map, List.getElem?_map]
      cases h1 : L0[q]? with
      | none =>
        have : found[q]? = none := by rw [List.getElem?_eq_none_iff] at h1 ⊢; have h9 := HFN.out; omega
        rw [this]; rfl
      | some y =>
        obtain ⟨d, x, e1, e2, e3⟩ := hget q y h1
        rw [e2, e3]; rfl
    have hCS : ∀ q y, L0[q]? = some y → nth CR q = some (rdV y) := fun q y hy => by
      obtain ⟨d, x, e1, e2, e3⟩ := hget q y hy
      obtain ⟨b9', C9', w1, w2, w3, w4, w5⟩ := rw_cell (hPt.row.rw encD1_len).1 e1 (show encD1 d = [Sl.val d] from rfl)
      have e9 : br = b9' := congrArg Addr.block (Option.some.inj w1)
      subst e9
      have e10 : CR = C9' := Option.some.inj (hbr.symm.trans w2)
      rw [e10, w5, e3]; rfl
    have hds : ∀ y ∈ L0, y.1.len = k ∧ Rw encS 1 (core Ox V) y.1.a k y.2 := fun y hy => by
      obtain ⟨q, hq⟩ := List.getElem?_of_mem hy
      obtain ⟨d, x, e1, e2, e3⟩ := hget q y hq
      rw [e3]
      exact hPt.ds q d x e1 e2
    have hnbr : ∀ b C, blk (core Ox V) b = some C → b ≠ br ∧ b ≠ b4 ∧ b ≠ b12 := fun b C hb => by
      have ho := (core_blk hb).2
      refine ⟨fun e => ?_, fun e => ?_, fun e => ?_⟩
      · rw [e, hor] at ho; cases ho
      · rw [e, hPt.hc.ro] at ho; cases ho
      · rw [e, hPt.ro] at ho; cases ho
    have hso := sortRows_any hbr hfr L0 i c k hLn (by omega) hcr hCS (fun y hy => ⟨(hds y hy).1, fun V' C' ho => (hds y hy).2.sub fun b C hb => (blk_of_heap (ho.heap b (blk_lt (core_blk hb).1) (hnbr b C hb).1)).trans (core_blk hb).1⟩) (by omega)
    have HL0 : Hid ((∀ y ∈ L0, y.1.len = k ∧ Rw encS 1 (core Ox V) y.1.a k y.2) ∧ L0.map (·.2) = (found.map fun x => nmsT t.N x k) ∧ L0.length = i ∧ ∀ b C, blk (core Ox V) b = some C → b ≠ br ∧ b ≠ b4 ∧ b ≠ b12) := ⟨hds, hsnd, hLn, hnbr⟩
    have HOR : Hid (Ox br = .a 9 8) := hor
    have n12r : b12 ≠ br := fun e => by have h1 := hPt.ro; rw [e, hor] at h1; cases h1
    have n4r : b4 ≠ br := fun e => by have h1 := hPt.hc.ro; rw [e, hor] at h1; cases h1
    have nsr : bs ≠ br := fun e => by have h1 := hPt.hc.sv.own; rw [e, hor] at h1; cases h1
    have n124 : b12 ≠ b4 := hPt.lo.2
    have sgP : seg PE2 0 11 = PE2 := seg_all _ _ pel
    have okP : okCells 11 PE2 = true := by rw [HPE2.out]; exact Reply.ok_enc _
    have asP : splice Reply.zero.enc 0 PE2 = PE2 := by rw [HPE2.out]; exact Reply.all_set _ _
    clear hPt hL0 hget hsnd hCS hds hnbr hor hdl hLn hin HI3
    go_wp2_with fail
    refine hso.mono ?_
    rintro e V' ⟨rfl, C', hon, hcl', hce⟩
    dsimp only
    have hb12' : blk V' b12 = some PE2 := (blk_of_heap (hon.heap b12 (blk_lt hb12) n12r)).trans hb12
    have hb4' : blk V' b4 = some Reply.zero.enc := (blk_of_heap (hon.heap b4 (blk_lt HPT.out.hc.rc) n4r)).trans HPT.out.hc.rc
    have hf4' : free V' b4 = true := (free_of_heap (hon.heap b4 (blk_lt HPT.out.hc.rc) n4r)).trans HPT.out.hc.rf
    have HP : Hid (Q (.returned (.agg (Reply.enc (ptE k (some ⟨br, 0, none⟩) i c)).toArray)) (put V' b4 (Reply.enc (ptE k (some ⟨br, 0, none⟩) i c)))) := by
      show Q _ _
      rw [HQ.out]
      have hF : Fr (fun l => l = .a 9 8) Ox V (lab Ox V.heap.size .no) V' := ⟨hon.os, hon.tape, hon.output, hon.size, fun k hk => lab_lt hk, fun k hk hn => hon.heap k hk (fun e => hn (by rw [e]; exact HOR.out))⟩
      have hg2 := HPT.out.hc.sv.gl
      have hsub : ∀ b C, blk (core Ox V) b = some C → blk (core (norm6 g (lab Ox V.heap.size .no)) (put V' b4 (Reply.enc (ptE k (some ⟨br, 0, none⟩) i c)))) b = some C := fun b C hb => by
        obtain ⟨m1, m2, m3⟩ := HL0.out.2.2.2 b C hb
        obtain ⟨m4, m5⟩ := core_blk hb
        refine blk_core ?_ (n6_no (by rw [lab_lt (blk_lt m4)]; exact m5))
        rw [blk_put, if_neg m2]
        exact (blk_of_heap (hon.heap b (blk_lt m4) m1)).trans m4
      refine (HPT.out.hc.fr98 hF H98.out (fun k hk hl => (HPT.out.hc.kp.keep k hk hl).1)).finG HLOW.out (q := ⟨0, 6, -1, false, 0, 0, (k : Int), srtR ((ptRows t pr L).map fun x => nmsT t.N x k), 0, []⟩) ⟨by unfold ptQ; rw [if_neg HCR.out, HLL.out], by rw [if_neg HCR.out]⟩ ?_
      have hbrf : blk (core (norm6 g (lab Ox V.heap.size .no)) (put V' b4 (Reply.enc (ptE k (some ⟨br, 0, none⟩) i c)))) br = some C' := by
        refine blk_core ?_ (n6_9 hg2 (i := 9) (j := 8) (by rw [lab_lt (blk_lt hbr)]; exact HOR.out) (by omega))
        rw [blk_put, if_neg (Ne.symm n4r)]
        exact hon.blk
      have hrw : srtR ((ptRows t pr L).map fun x => nmsT t.N x k) = (srtF L0).map (·.2) := by rw [srtF_snd, HL0.out.2.1, HFD.out]
      refine ⟨rfl, rfl, rfl, rfl, rfl, rfl, rfl, ?_, rfl, ⟨rfl, fun i x hx => by simp at hx⟩⟩
      refine ⟨(srtF L0).map (·.1), ⟨by rw [List.length_map, srtF_len]; exact HL0.out.2.2.1, fun q d hd => ?_⟩, ?_, fun q d row hd hr => ?_⟩
      · rw [List.getElem?_map] at hd
        cases h1 : (srtF L0)[q]? with
        | none => rw [h1] at hd; cases hd
        | some y =>
          rw [h1] at hd
          have e9 : y.1 = d := Option.some.inj hd
          have h2 := hce q y h1
          refine ⟨br, C', rfl, hbrf, by show i * 1 ≤ _; omega, ?_⟩
          rw [Nat.mul_one, seg_nth1 h2, ← e9]; rfl
      · rw [hrw]; simp
      · rw [hrw, List.getElem?_map] at hr
        rw [List.getElem?_map] at hd
        cases h1 : (srtF L0)[q]? with
        | none => rw [h1] at hd; cases hd
        | some y =>
          rw [h1] at hd hr
          have e9 : y.1 = d := Option.some.inj hd
          have e10 : y.2 = row := Option.some.inj hr
          obtain ⟨m1, m2⟩ := HL0.out.1 y (srtF_mem (List.mem_of_getElem? h1))
          rw [← e9, ← e10, m1]
          exact m2.sub hsub
    rw [← HPE2.out] at HP
    clear hso hon hcl' hce HL0 HPT
    go_wp2_with fail
    refine ret_cell (C := PE2) rfl rfl ?_ (by kernel_rfl) (by rw [pel]; kernel_rfl) rfl HP.out
    first | (rw [blk_put, if_pos rfl, hb4']; rfl) | (simp only [blk_put, if_true, hb4', Option.map_some]; try rfl)
  have hin' : (i : Int) < (fn : Int) := by omega
  have i0 : (0 : Int) ≤ (i : Int) := by omega
  have i2 : ((i : Int)).toNat = i := by omega
  obtain ⟨x, hx⟩ : ∃ x, found[i]? = some x := ⟨_, List.getElem?_eq_getElem (by rw [← HFN.out]; exact hin)⟩
  obtain ⟨bq, Cq, r1, r2', r3, r4, r5⟩ := tup_at hPt.fd hx
  subst r1
  have hoq := (core_blk r2').2
  have r2 := (core_blk r2').1
  have n12q : ¬ b12 = bq := fun e => by
    have h1 := hPt.ro
    rw [e, hoq] at h1
    cases h1
  have hnm := names_any (W := V.drew) (HI3.out.ext (extd V)) x k (by omega) (HFS.out x (List.mem_of_getElem? hx))
  have HX := hid_of hx
  have HOQ := hid_of hoq
  have hSd : (blk V.drew bs = some CS2 ∧ blk V.drew bi = some CI) ∧ blk V.drew bq = some Cq ∧ ∃ C, blk V.drew b12 = some C ∧ 6 < C.length ∧ nth C 6 = some (.int .i64 (k : Int)) := ⟨⟨hbs, hbi⟩, r2, PE2, hb12, pl6, pe6⟩
  have hb12d : blk V.drew b12 = some PE2 := hb12
  clear r2' hoq hPt hx
  go_upto_region 20 with fail
  refine wp_region_held_drew (S := fun W' => (blk W' bs = some CS2 ∧ blk W' bi = some CI) ∧ blk W' bq = some Cq ∧ ∃ C, blk W' b12 = some C ∧ 6 < C.length ∧ nth C 6 = some (.int .i64 (k : Int))) (by kernel_rfl) hSd (fun hHeld => ?_)
  refine wpAnyH_take (i := 0) (oi := ⟨_, _, _, _, _, _⟩) (v := ?_) rfl (by kernel_rfl) (by kernel_rfl) (by kernel_rfl) (fun _ _ _ h => h) (Or.inl ⟨by rfl, ?_⟩) (by assumption) ?_
  rotate_left 1
  · intro W' hSw
    obtain ⟨⟨hS1, hS2⟩, hS3, C9, hS4, hS5, hS6⟩ := hSw
    go_simp
    try with_reducible rfl
  try simp only [Act.put, List.setIfInBounds_toArray, List.set_cons_zero, List.set_cons_succ]
  refine wpAnyH_take (i := 2) (oi := ⟨_, _, _, _, _, _⟩) (v := ?_) rfl (by kernel_rfl) (by kernel_rfl) (by kernel_rfl) (fun _ _ _ h => h) (Or.inl ⟨by rfl, ?_⟩) (by assumption) ?_
  rotate_left 1
  · intro W' hSw
    obtain ⟨⟨hS1, hS2⟩, hS3, C9, hS4, hS5, hS6⟩ := hSw
    go_simp
    try with_reducible rfl
  try simp only [Act.put, List.setIfInBounds_toArray, List.set_cons_zero, List.set_cons_succ]
  refine wpAnyH_take (i := 3) (oi := ⟨_, _, _, _, _, _⟩) (v := ?_) rfl (by kernel_rfl) (by kernel_rfl) (by kernel_rfl) (fun _ _ _ h => h) (Or.inl ⟨by rfl, ?_⟩) (by assumption) ?_
  rotate_left 1
  · intro W' hSw
    obtain ⟨⟨hS1, hS2⟩, hS3, C9, hS4, hS5, hS6⟩ := hSw
    go_simp
    try with_reducible rfl
  try simp only [Act.put, List.setIfInBounds_toArray, List.set_cons_zero, List.set_cons_succ]
  refine wpAnyH_take (i := 4) (oi := ⟨_, _, _, _, _, _⟩) (v := ?_) rfl (by kernel_rfl) (by kernel_rfl) (by kernel_rfl) (fun _ _ _ h => h) (Or.inl ⟨by rfl, ?_⟩) (by assumption) ?_
  rotate_left 1
  · intro W' hSw
    obtain ⟨⟨hS1, hS2⟩, hS3, C9, hS4, hS5, hS6⟩ := hSw
    go_simp
    try with_reducible rfl
  try simp only [Act.put, List.setIfInBounds_toArray, List.set_cons_zero, List.set_cons_succ]
  refine wpAnyH_take (i := 5) (oi := ⟨_, _, _, _, _, _⟩) (v := ?_) rfl (by kernel_rfl) (by kernel_rfl) (by kernel_rfl) (fun _ _ _ h => h) (Or.inl ⟨by rfl, ?_⟩) (by assumption) ?_
  rotate_left 1
  · intro W' hSw
    obtain ⟨⟨hS1, hS2⟩, hS3, C9, hS4, hS5, hS6⟩ := hSw
    go_simp
    try with_reducible rfl
  try simp only [Act.put, List.setIfInBounds_toArray, List.set_cons_zero, List.set_cons_succ]
  refine wpAnyH_take (i := 6) (oi := ⟨_, _, _, _, _, _⟩) (v := ?_) rfl (by kernel_rfl) (by kernel_rfl) (by kernel_rfl) (fun _ _ _ h => h) (Or.inl ⟨by rfl, ?_⟩) (by assumption) ?_
  rotate_left 1
  · intro W' hSw
    obtain ⟨⟨hS1, hS2⟩, hS3, C9, hS4, hS5, hS6⟩ := hSw
    go_simp
    try with_reducible rfl
  try simp only [Act.put, List.setIfInBounds_toArray, List.set_cons_zero, List.set_cons_succ]
  refine wpAnyH_take (i := 7) (oi := ⟨_, _, _, _, _, _⟩) (v := ?_) rfl (by kernel_rfl) (by kernel_rfl) (by kernel_rfl) (fun _ _ _ h => h) (Or.inl ⟨by rfl, ?_⟩) (by assumption) ?_
  rotate_left 1
  · intro W' hSw
    obtain ⟨⟨hS1, hS2⟩, hS3, C9, hS4, hS5, hS6⟩ := hSw
    go_simp
    try with_reducible rfl
  try simp only [Act.put, List.setIfInBounds_toArray, List.set_cons_zero, List.set_cons_succ]
  refine wpAnyH_take (i := 8) (oi := ⟨_, _, _, _, _, _⟩) (v := ?_) rfl (by kernel_rfl) (by kernel_rfl) (by kernel_rfl) (fun _ _ _ h => h) (Or.inl ⟨by rfl, ?_⟩) (by assumption) ?_
  rotate_left 1
  · intro W' hSw
    obtain ⟨⟨hS1, hS2⟩, hS3, C9, hS4, hS5, hS6⟩ := hSw
    go_simp
    try with_reducible rfl
  try simp only [Act.put, List.setIfInBounds_toArray, List.set_cons_zero, List.set_cons_succ]
  refine wpAnyH_take (i := 9) (oi := ⟨_, _, _, _, _, _⟩) (v := ?_) rfl (by kernel_rfl) (by kernel_rfl) (by kernel_rfl) (fun _ _ _ h => h) (Or.inl ⟨by rfl, ?_⟩) (by assumption) ?_
  rotate_left 1
  · intro W' hSw
    obtain ⟨⟨hS1, hS2⟩, hS3, C9, hS4, hS5, hS6⟩ := hSw
    go_simp
    try with_reducible rfl
  try simp only [Act.put, List.setIfInBounds_toArray, List.set_cons_zero, List.set_cons_succ]
  refine wpAnyH_take (i := 10) (oi := ⟨_, _, _, _, _, _⟩) (v := ?_) rfl (by kernel_rfl) (by kernel_rfl) (by kernel_rfl) (fun _ _ _ h => h) (Or.inl ⟨by rfl, ?_⟩) (by assumption) ?_
  rotate_left 1
  · intro W' hSw
    obtain ⟨⟨hS1, hS2⟩, hS3, C9, hS4, hS5, hS6⟩ := hSw
    go_simp
    try with_reducible rfl
  try simp only [Act.put, List.setIfInBounds_toArray, List.set_cons_zero, List.set_cons_succ]
  refine wpAnyH_take (i := 11) (oi := ⟨_, _, _, _, _, _⟩) (v := ?_) rfl (by kernel_rfl) (by kernel_rfl) (by kernel_rfl) (fun _ _ _ h => h) (Or.inl ⟨by rfl, ?_⟩) (by assumption) ?_
  rotate_left 1
  · intro W' hSw
    obtain ⟨⟨hS1, hS2⟩, hS3, C9, hS4, hS5, hS6⟩ := hSw
    go_simp
    try with_reducible rfl
  try simp only [Act.put, List.setIfInBounds_toArray, List.set_cons_zero, List.set_cons_succ]
  refine wpAnyH_ready (rs := [1, 12]) (by kernel_rfl) (by simp) ?_
  refine AllReadyH.cons (o := ⟨_, _, _, _, _, _⟩) rfl (fun K' hK => ?_) (AllReadyH.cons (o := ⟨_, _, _, _, _, _⟩) rfl (fun K' hK => ?_) AllReadyH.nil)
  · go_simp
    refine hK.out _ _ hSd (fun hHeld => ?_)
    clear hK K'
    try simp only [Act.put, List.setIfInBounds_toArray, List.set_cons_zero, List.set_cons_succ]
    refine wpAnyH_ready (rs := [12]) (by kernel_rfl) (by simp) ?_
    refine AllReadyH.cons (o := ⟨_, _, _, _, _, _⟩) rfl (fun K' hK => ?_) AllReadyH.nil
    go_simp
    refine hnm.mono ?_
    rintro en V8 ⟨na, nc, rfl, hO8⟩
    dsimp only
    obtain ⟨a', c', V9, hrun, hF9, hb129, hf129, br', hPt'⟩ := HPT.out.next H98.out (by omega) HX.out hO8
    have hx8 : V.Extends V8 := (extd V).trans hO8.2.1
    have hb128 : blk V8 b12 = some PE2 := (hx8.blk (blk_lt hb12)).trans hb12
    have hb12A : ∀ X, blk (V8.alloc X) b12 = some PE2 := fun X => ((extends_alloc (ext_Ext (Ext.refl _)) X : V8.Extends (V8.alloc X)).blk (blk_lt hb128)).trans hb128
    have hS8 : (blk V8 bs = some CS2 ∧ blk V8 bi = some CI) ∧ blk V8 bq = some Cq ∧ ∃ C, blk V8 b12 = some C ∧ 6 < C.length ∧ nth C 6 = some (.int .i64 (k : Int)) := ⟨⟨(hx8.blk (blk_lt hbs)).trans hbs, (hx8.blk (blk_lt hbi)).trans hbi⟩, (hx8.blk (blk_lt r2)).trans r2, PE2, hb128, pl6, pe6⟩
    have hSA : ∀ X, (blk (V8.alloc X) bs = some CS2 ∧ blk (V8.alloc X) bi = some CI) ∧ blk (V8.alloc X) bq = some Cq ∧ ∃ C, blk (V8.alloc X) b12 = some C ∧ 6 < C.length ∧ nth C 6 = some (.int .i64 (k : Int)) := fun X => by
      have hxa : V8.Extends (V8.alloc X) := extends_alloc (ext_Ext (Ext.refl _)) _
      exact ⟨⟨(hxa.blk (blk_lt hS8.1.1)).trans hS8.1.1, (hxa.blk (blk_lt hS8.1.2)).trans hS8.1.2⟩, (hxa.blk (blk_lt hS8.2.1)).trans hS8.2.1, PE2, hb12A X, pl6, pe6⟩
    rw [← HPE2.out] at hb129
    have hS9b : (blk V9 bs = some CS2 ∧ blk V9 bi = some CI) ∧ blk V9 bq = some Cq := by
      refine ⟨⟨hF9.blk hbs (by rw [HPT.out.hc.sv.own]; exact fun e => by cases e), hF9.blk hbi ?_⟩, hF9.blk r2 (by rw [HOQ.out]; exact fun e => by cases e)⟩
      rw [HOI.out]; exact fun e => by have := (Lab.a.inj e).1; omega
    have hS9 : (blk V9 bs = some CS2 ∧ blk V9 bi = some CI) ∧ blk V9 bq = some Cq ∧ ∃ C, blk V9 b12 = some C ∧ 6 < C.length ∧ nth C 6 = some (.int .i64 (k : Int)) := ⟨hS9b.1, hS9b.2, PE2, hb129, pl6, pe6⟩
    have hS10 : (blk (put V9 b12 (Reply.enc (ptE k a' (i + 1) c'))) bs = some CS2 ∧ blk (put V9 b12 (Reply.enc (ptE k a' (i + 1) c'))) bi = some CI) ∧ blk (put V9 b12 (Reply.enc (ptE k a' (i + 1) c'))) bq = some Cq ∧ ∃ C, blk (put V9 b12 (Reply.enc (ptE k a' (i + 1) c'))) b12 = some C ∧ 6 < C.length ∧ nth C 6 = some (.int .i64 (k : Int)) := ⟨⟨by rw [blk_put, if_neg (Ne.symm n12s)]; exact hS9b.1.1, by rw [blk_put, if_neg (Ne.symm n12i)]; exact hS9b.1.2⟩, by rw [blk_put, if_neg (Ne.symm n12q)]; exact hS9b.2, Reply.enc (ptE k a' (i + 1) c'), by rw [blk_put, if_pos rfl, hb129]; rfl, by rw [Reply.length_enc]; omega, rfl⟩
    have hsp7 : splice PE2 7 [.slice a' (i + 1) c'] = Reply.enc (ptE k a' (i + 1) c') := by rw [HPE2.out]; rfl
    have pl7' : 7 + 1 ≤ PE2.length := by omega
    have HJ' : Hid (∃ a c Ox br Ds, Pt2 O W bs b4 g (s.low t 6) CS2 (some ⟨bi, 0, none⟩) ia iN ic V6.heap.size b12 k t.N (some ⟨bq, 0, none⟩) fn found (i + 1) a c Ox (put V9 b12 (Reply.enc (ptE k a' (i + 1) c'))) br Ds) := ⟨_, _, _, _, _, hPt'⟩
    obtain ⟨PE3, hPE3⟩ : ∃ PE3, PE3 = Reply.enc (ptE k a' (i + 1) c') := ⟨_, rfl⟩
    rw [← hPE3] at hsp7 HJ' hS10
    clear hO8 hx8 hF9 hPt' hPE3
    refine hK.out _ _ hS8 (fun hHeld => ?_)
    clear hK K'
    try simp only [Act.put, List.setIfInBounds_toArray, List.set_cons_zero, List.set_cons_succ]
    refine wpAnyH_ready (rs := [13]) (by kernel_rfl) (by simp) ?_
    refine AllReadyH.cons (o := ⟨_, _, _, _, _, _⟩) rfl (fun K' hK => ?_) AllReadyH.nil
    go_simp
    refine hK.out _ _ (hSA _) (fun hHeld => ?_)
    clear hK K'
    try simp only [Act.put, List.setIfInBounds_toArray, List.set_cons_zero, List.set_cons_succ]
    refine wpAnyH_ready (rs := [14]) (by kernel_rfl) (by simp) ?_
    refine AllReadyH.cons (o := ⟨_, _, _, _, _, _⟩) rfl (fun K' hK => ?_) AllReadyH.nil
    refine wp_append_run _ _ 61 rfl _ _ _ _ rfl rfl hrun ?_
    refine hK.out _ _ hS9 (fun hHeld => ?_)
    clear hK K'
    try simp only [Act.put, List.setIfInBounds_toArray, List.set_cons_zero, List.set_cons_succ]
    refine wpAnyH_take (i := 15) (oi := ⟨_, _, _, _, _, _⟩) (v := ?_) rfl (by kernel_rfl) (by kernel_rfl) (by kernel_rfl) (fun _ _ _ h => h) (Or.inl ⟨by rfl, ?_⟩) (by assumption) ?_
    rotate_left 1
    · intro W' hSw
      obtain ⟨⟨hS1, hS2⟩, hS3, C9, hS4, hS5, hS6⟩ := hSw
      go_simp
      try with_reducible rfl
    try simp only [Act.put, List.setIfInBounds_toArray, List.set_cons_zero, List.set_cons_succ]
    refine wpAnyH_ready (rs := [16]) (by kernel_rfl) (by simp) ?_
    refine AllReadyH.cons (o := ⟨_, _, _, _, _, _⟩) rfl (fun K' hK => ?_) AllReadyH.nil
    go_simp
    refine hK.out _ _ hS10 (fun hHeld => ?_)
    clear hK K'
    try simp only [Act.put, List.setIfInBounds_toArray, List.set_cons_zero, List.set_cons_succ]
    refine wpAnyH_done (by kernel_rfl) ?_ _
    clear hHeld hrun
    go_wp2_with fail
    refine ⟨rfl, rfl, ⟨rfl, rfl, rfl, rfl, i + 1, by omega, ?_, HJ'⟩, ?_⟩
    · show Value.int .i64 _ = _
      go_num
    · show fn - (intOf (Value.int .i64 _)).toNat < fn - (intOf (F2 13)).toNat
      rw [H13.out]
      simp [intOf]; omega
  · go_simp
    refine hnm.mono ?_
    rintro en V8 ⟨na, nc, rfl, hO8⟩
    dsimp only
    obtain ⟨a', c', V9, hrun, hF9, hb129, hf129, br', hPt'⟩ := HPT.out.next H98.out (by omega) HX.out hO8
    have hx8 : V.Extends V8 := (extd V).trans hO8.2.1
    have hb128 : blk V8 b12 = some PE2 := (hx8.blk (blk_lt hb12)).trans hb12
    have hb12A : ∀ X, blk (V8.alloc X) b12 = some PE2 := fun X => ((extends_alloc (ext_Ext (Ext.refl _)) X : V8.Extends (V8.alloc X)).blk (blk_lt hb128)).trans hb128
    have hS8 : (blk V8 bs = some CS2 ∧ blk V8 bi = some CI) ∧ blk V8 bq = some Cq ∧ ∃ C, blk V8 b12 = some C ∧ 6 < C.length ∧ nth C 6 = some (.int .i64 (k : Int)) := ⟨⟨(hx8.blk (blk_lt hbs)).trans hbs, (hx8.blk (blk_lt hbi)).trans hbi⟩, (hx8.blk (blk_lt r2)).trans r2, PE2, hb128, pl6, pe6⟩
    have hSA : ∀ X, (blk (V8.alloc X) bs = some CS2 ∧ blk (V8.alloc X) bi = some CI) ∧ blk (V8.alloc X) bq = some Cq ∧ ∃ C, blk (V8.alloc X) b12 = some C ∧ 6 < C.length ∧ nth C 6 = some (.int .i64 (k : Int)) := fun X => by
      have hxa : V8.Extends (V8.alloc X) := extends_alloc (ext_Ext (Ext.refl _)) _
      exact ⟨⟨(hxa.blk (blk_lt hS8.1.1)).trans hS8.1.1, (hxa.blk (blk_lt hS8.1.2)).trans hS8.1.2⟩, (hxa.blk (blk_lt hS8.2.1)).trans hS8.2.1, PE2, hb12A X, pl6, pe6⟩
    rw [← HPE2.out] at hb129
    have hS9b : (blk V9 bs = some CS2 ∧ blk V9 bi = some CI) ∧ blk V9 bq = some Cq := by
      refine ⟨⟨hF9.blk hbs (by rw [HPT.out.hc.sv.own]; exact fun e => by cases e), hF9.blk hbi ?_⟩, hF9.blk r2 (by rw [HOQ.out]; exact fun e => by cases e)⟩
      rw [HOI.out]; exact fun e => by have := (Lab.a.inj e).1; omega
    have hS9 : (blk V9 bs = some CS2 ∧ blk V9 bi = some CI) ∧ blk V9 bq = some Cq ∧ ∃ C, blk V9 b12 = some C ∧ 6 < C.length ∧ nth C 6 = some (.int .i64 (k : Int)) := ⟨hS9b.1, hS9b.2, PE2, hb129, pl6, pe6⟩
    have hS10 : (blk (put V9 b12 (Reply.enc (ptE k a' (i + 1) c'))) bs = some CS2 ∧ blk (put V9 b12 (Reply.enc (ptE k a' (i + 1) c'))) bi = some CI) ∧ blk (put V9 b12 (Reply.enc (ptE k a' (i + 1) c'))) bq = some Cq ∧ ∃ C, blk (put V9 b12 (Reply.enc (ptE k a' (i + 1) c'))) b12 = some C ∧ 6 < C.length ∧ nth C 6 = some (.int .i64 (k : Int)) := ⟨⟨by rw [blk_put, if_neg (Ne.symm n12s)]; exact hS9b.1.1, by rw [blk_put, if_neg (Ne.symm n12i)]; exact hS9b.1.2⟩, by rw [blk_put, if_neg (Ne.symm n12q)]; exact hS9b.2, Reply.enc (ptE k a' (i + 1) c'), by rw [blk_put, if_pos rfl, hb129]; rfl, by rw [Reply.length_enc]; omega, rfl⟩
    have hsp7 : splice PE2 7 [.slice a' (i + 1) c'] = Reply.enc (ptE k a' (i + 1) c') := by rw [HPE2.out]; rfl
    have pl7' : 7 + 1 ≤ PE2.length := by omega
    have HJ' : Hid (∃ a c Ox br Ds, Pt2 O W bs b4 g (s.low t 6) CS2 (some ⟨bi, 0, none⟩) ia iN ic V6.heap.size b12 k t.N (some ⟨bq, 0, none⟩) fn found (i + 1) a c Ox (put V9 b12 (Reply.enc (ptE k a' (i + 1) c'))) br Ds) := ⟨_, _, _, _, _, hPt'⟩
    obtain ⟨PE3, hPE3⟩ : ∃ PE3, PE3 = Reply.enc (ptE k a' (i + 1) c') := ⟨_, rfl⟩
    rw [← hPE3] at hsp7 HJ' hS10
    clear hO8 hx8 hF9 hPt' hPE3
    refine hK.out _ _ hS8 (fun hHeld => ?_)
    clear hK K'
    try simp only [Act.put, List.setIfInBounds_toArray, List.set_cons_zero, List.set_cons_succ]
    refine wpAnyH_ready (rs := [1, 13]) (by kernel_rfl) (by simp) ?_
    refine AllReadyH.cons (o := ⟨_, _, _, _, _, _⟩) rfl (fun K' hK => ?_) (AllReadyH.cons (o := ⟨_, _, _, _, _, _⟩) rfl (fun K' hK => ?_) AllReadyH.nil)
    · go_simp
      refine hK.out _ _ hS8 (fun hHeld => ?_)
      clear hK K'
      try simp only [Act.put, List.setIfInBounds_toArray, List.set_cons_zero, List.set_cons_succ]
      refine wpAnyH_ready (rs := [13]) (by kernel_rfl) (by simp) ?_
      refine AllReadyH.cons (o := ⟨_, _, _, _, _, _⟩) rfl (fun K' hK => ?_) AllReadyH.nil
      go_simp
      refine hK.out _ _ (hSA _) (fun hHeld => ?_)
      clear hK K'
      try simp only [Act.put, List.setIfInBounds_toArray, List.set_cons_zero, List.set_cons_succ]
      refine wpAnyH_ready (rs := [14]) (by kernel_rfl) (by simp) ?_
      refine AllReadyH.cons (o := ⟨_, _, _, _, _, _⟩) rfl (fun K' hK => ?_) AllReadyH.nil
      refine wp_append_run _ _ 61 rfl _ _ _ _ rfl rfl hrun ?_
      refine hK.out _ _ hS9 (fun hHeld => ?_)
      clear hK K'
      try simp only [Act.put, List.setIfInBounds_toArray, List.set_cons_zero, List.set_cons_succ]
      refine wpAnyH_take (i := 15) (oi := ⟨_, _, _, _, _, _⟩) (v := ?_) rfl (by kernel_rfl) (by kernel_rfl) (by kernel_rfl) (fun _ _ _ h => h) (Or.inl ⟨by rfl, ?_⟩) (by assumption) ?_
      rotate_left 1
      · intro W' hSw
        obtain ⟨⟨hS1, hS2⟩, hS3, C9, hS4, hS5, hS6⟩ := hSw
        go_simp
        try with_reducible rfl
      try simp only [Act.put, List.setIfInBounds_toArray, List.set_cons_zero, List.set_cons_succ]
      refine wpAnyH_ready (rs := [16]) (by kernel_rfl) (by simp) ?_
      refine AllReadyH.cons (o := ⟨_, _, _, _, _, _⟩) rfl (fun K' hK => ?_) AllReadyH.nil
      go_simp
      refine hK.out _ _ hS10 (fun hHeld => ?_)
      clear hK K'
      try simp only [Act.put, List.setIfInBounds_toArray, List.set_cons_zero, List.set_cons_succ]
      refine wpAnyH_done (by kernel_rfl) ?_ _
      clear hHeld hrun
      go_wp2_with fail
      refine ⟨rfl, rfl, ⟨rfl, rfl, rfl, rfl, i + 1, by omega, ?_, HJ'⟩, ?_⟩
      · show Value.int .i64 _ = _
        go_num
      · show fn - (intOf (Value.int .i64 _)).toNat < fn - (intOf (F2 13)).toNat
        rw [H13.out]
        simp [intOf]; omega
    · go_simp
      refine hK.out _ _ (hSA _) (fun hHeld => ?_)
      clear hK K'
      try simp only [Act.put, List.setIfInBounds_toArray, List.set_cons_zero, List.set_cons_succ]
      refine wpAnyH_ready (rs := [1]) (by kernel_rfl) (by simp) ?_
      refine AllReadyH.cons (o := ⟨_, _, _, _, _, _⟩) rfl (fun K' hK => ?_) AllReadyH.nil
      go_simp
      refine hK.out _ _ (hSA _) (fun hHeld => ?_)
      clear hK K'
      try simp only [Act.put, List.setIfInBounds_toArray, List.set_cons_zero, List.set_cons_succ]
      refine wpAnyH_ready (rs := [14]) (by kernel_rfl) (by simp) ?_
      refine AllReadyH.cons (o := ⟨_, _, _, _, _, _⟩) rfl (fun K' hK => ?_) AllReadyH.nil
      refine wp_append_run _ _ 61 rfl _ _ _ _ rfl rfl hrun ?_
      refine hK.out _ _ hS9 (fun hHeld => ?_)
      clear hK K'
      try simp only [Act.put, List.setIfInBounds_toArray, List.set_cons_zero, List.set_cons_succ]
      refine wpAnyH_take (i := 15) (oi := ⟨_, _, _, _, _, _⟩) (v := ?_) rfl (by kernel_rfl) (by kernel_rfl) (by kernel_rfl) (fun _ _ _ h => h) (Or.inl ⟨by rfl, ?_⟩) (by assumption) ?_
      rotate_left 1
      · intro W' hSw
        obtain ⟨⟨hS1, hS2⟩, hS3, C9, hS4, hS5, hS6⟩ := hSw
        go_simp
        try with_reducible rfl
      try simp only [Act.put, List.setIfInBounds_toArray, List.set_cons_zero, List.set_cons_succ]
      refine wpAnyH_ready (rs := [16]) (by kernel_rfl) (by simp) ?_
      refine AllReadyH.cons (o := ⟨_, _, _, _, _, _⟩) rfl (fun K' hK => ?_) AllReadyH.nil
      go_simp
      refine hK.out _ _ hS10 (fun hHeld => ?_)
      clear hK K'
      try simp only [Act.put, List.setIfInBounds_toArray, List.set_cons_zero, List.set_cons_succ]
      refine wpAnyH_done (by kernel_rfl) ?_ _
      clear hHeld hrun
      go_wp2_with fail
      refine ⟨rfl, rfl, ⟨rfl, rfl, rfl, rfl, i + 1, by omega, ?_, HJ'⟩, ?_⟩
      · show Value.int .i64 _ = _
        go_num
      · show fn - (intOf (Value.int .i64 _)).toNat < fn - (intOf (F2 13)).toNat
        rw [H13.out]
        simp [intOf]; omega
end Go.Proofs.Qxb6500787aGreat
