
import Derived.Test.Qxb6500787aGreatXe
import Derived.StillTailTactics
import Derived.Deep.QuietTactic
import Derived.BigQuiet
import Derived.Deep.RegionHeld
import Derived.Deep.CutRange
import Derived.Laws.ResultCell
import Derived.Laws.Rows
import Derived.DeepKeys
import Derived.DataBytes
import Derived.Laws.StructEq
import Derived.Laws.AppendOwn
import Derived.Laws.MakeOwn
import Derived.Lib.AppendStr
set_option linter.unusedSimpArgs false
set_option linter.unusedVariables false
namespace Go.Proofs.Qxb6500787aGreat
open Go.RowKit Go.Blk
attribute [local go_sem ↓] execOp_load execOp_store execOp_alloc
attribute [local go_sem] Tryz.ld26 Tryz.st26 Tryz.ld27 Tryz.st27 Tryz.ld28 Tryz.st28 Tryz.ld3 Tryz.st3 Tryz.ld29 Tryz.st29 Tryz.ld44 Tryz.st44 Tryz.ld4 Tryz.st4 Tryz.ld50 Tryz.st50 Tryz.ld32 Tryz.st32 Tryz.ld49 Tryz.st49 Tryz.ld68 Tryz.st68 Tryz.ld9 Tryz.st9 Tryz.ld40 Tryz.st40 Tryz.ld138 Tryz.st138 Tryz.ld139 Tryz.st139 Tryz.ld146 Tryz.st146 Tryz.ld183 Tryz.st183 Tryz.ld184 Tryz.st184 Tryz.ld192 Tryz.st192 Tryz.ld195 Tryz.st195 Tryz.ld217 Tryz.st217 Tryz.ld159 Tryz.st159 Tryz.ld142 Tryz.st142 Tryz.ld2 Tryz.st2 Tryz.ld5 Tryz.st5 Tryz.ld12 Tryz.st12 Tryz.ld21 Tryz.st21 Tryz.ld22 Tryz.st22 Tryz.ld24 Tryz.st24 Tryz.ld58 Tryz.st58 Tryz.ld97 Tryz.st97 Tryz.ld101 Tryz.st101 Tryz.ld116 Tryz.st116 Tryz.ld121 Tryz.st121 Tryz.ld135 Tryz.st135 Tryz.ld136 Tryz.st136 Tryz.ld143 Tryz.st143 Tryz.ld148 Tryz.st148 Tryz.ld154 Tryz.st154 Tryz.ld173 Tryz.st173 Tryz.ld187 Tryz.st187 Tryz.ld222 Tryz.st222 Tryz.ld241 Tryz.st241 Tryz.ld248 Tryz.st248 Tryz.ld268 Tryz.st268 Tryz.ld272 Tryz.st272 Tryz.ld153 Tryz.st153 Tryz.ld255 Tryz.st255 Tryz.ld256 Tryz.st256 Tryz.ld129 Tryz.st129 Tryz.ld152 Tryz.st152 Tryz.ld31 Tryz.st31 Tryz.ld46 Tryz.st46 Tryz.ld52 Tryz.st52 Tryz.ld54 Tryz.st54 Tryz.ld60 Tryz.st60 Tryz.ld70 Tryz.st70 Tryz.ld74 Tryz.st74 Tryz.ld93 Tryz.st93 Tryz.ld141 Tryz.st141 Tryz.ld151 Tryz.st151 Tryz.ld170 Tryz.st170 Tryz.ld186 Tryz.st186 Tryz.ld189 Tryz.st189 Tryz.ld194 Tryz.st194 Tryz.ld197 Tryz.st197 Tryz.ld219 Tryz.st219 Tryz.ld224 Tryz.st224 Tryz.ld230 Tryz.st230 Tryz.ld235 Tryz.st235 Tryz.ld243 Tryz.st243 Tryz.ld247 Tryz.st247 Tryz.ld252 Tryz.st252 Tryz.ld258 Tryz.st258 Tryz.al153 Tryz.al255 Tryz.al256 Tryz.al129 Tryz.al152 Tryz.al31 Tryz.al46 Tryz.al52 Tryz.al54 Tryz.al60 Tryz.al70 Tryz.al74 Tryz.al93 Tryz.al141 Tryz.al151 Tryz.al170 Tryz.al186 Tryz.al189 Tryz.al194 Tryz.al197 Tryz.al219 Tryz.al224 Tryz.al230 Tryz.al235 Tryz.al243 Tryz.al247 Tryz.al252 Tryz.al258
attribute [local go_sem] Request.length_enc Request.ok_enc Request.all_get Request.all_set Request.kind_get Request.kind_set Request.blob_get Request.blob_set Request.items_get Request.items_set Request.pred_get Request.pred_set Request.slots_get Request.slots_set Trace.length_enc Trace.ok_enc Trace.all_get Trace.all_set Trace.op_get Trace.op_set Trace.calls_get Trace.calls_set Item.length_enc Item.ok_enc Item.all_get Item.all_set Item.del_get Item.del_set Item.pred_get Item.pred_set Item.args_get Item.args_set Reply.length_enc Reply.ok_enc Reply.all_get Reply.all_set Reply.code_get Reply.code_set Reply.kind_get Reply.kind_set Reply.index_get Reply.index_set Reply.yes_get Reply.yes_set Reply.preds_get Reply.preds_set Reply.rules_get Reply.rules_set Reply.arity_get Reply.arity_set Reply.rows_get Reply.rows_set Reply.fact_get Reply.fact_set Reply.fact_del_get Reply.fact_del_set Reply.fact_pred_get Reply.fact_pred_set Reply.fact_args_get Reply.fact_args_set GEntry.length_enc GEntry.ok_enc GEntry.all_get GEntry.all_set GEntry.seq_get GEntry.seq_set GEntry.kind_get GEntry.kind_set GEntry.code_get GEntry.code_set GOp.length_enc GOp.ok_enc GOp.all_get GOp.all_set GOp.kind_get GOp.kind_set GOp.raw_get GOp.raw_set Reader.length_enc Reader.ok_enc Reader.all_get Reader.all_set Reader.buf_get Reader.buf_set Reader.at__get Reader.at__set Slot.length_enc Slot.ok_enc Slot.all_get Slot.all_set Slot.bound_get Slot.bound_set Slot.name_get Slot.name_set Session.length_enc Session.ok_enc Session.all_get Session.all_set Session.svc_get Session.svc_set Session.buf_get Session.buf_set Session.closed_get Session.closed_set GProgram.length_enc GProgram.ok_enc GProgram.all_get GProgram.all_set GProgram.pool_get GProgram.pool_set GProgram.preds_get GProgram.preds_set GProgram.rules_get GProgram.rules_set GProgram.strata_get GProgram.strata_set PredInfo.length_enc PredInfo.ok_enc PredInfo.all_get PredInfo.all_set PredInfo.arity_get PredInfo.arity_set PredInfo.base_get PredInfo.base_set PredInfo.stratum_get PredInfo.stratum_set Change.length_enc Change.ok_enc Change.all_get Change.all_set Change.del_get Change.del_set Change.pred_get Change.pred_set Change.t_get Change.t_set Store.length_enc Store.ok_enc Store.all_get Store.all_set Store.names_get Store.names_set Store.arity_get Store.arity_set Store.rows_get Store.rows_set Src.length_enc Src.ok_enc Src.all_get Src.all_set Src.b_get Src.b_set Src.at__get Src.at__set Atom.length_enc Atom.ok_enc Atom.all_get Atom.all_set Atom.pred_get Atom.pred_set Atom.args_get Atom.args_set GRule.length_enc GRule.ok_enc GRule.all_get GRule.all_set GRule.head_get GRule.head_set GRule.body_get GRule.body_set GRule.head_pred_get GRule.head_pred_set GRule.head_args_get GRule.head_args_set Cert.length_enc Cert.ok_enc Cert.all_get Cert.all_set Cert.names_get Cert.names_set Cert.nodes_get Cert.nodes_set Fact.length_enc Fact.ok_enc Fact.all_get Fact.all_set Fact.pred_get Fact.pred_set Fact.t_get Fact.t_set Literal.length_enc Literal.ok_enc Literal.all_get Literal.all_set Literal.neg_get Literal.neg_set Literal.atom_get Literal.atom_set Literal.atom_pred_get Literal.atom_pred_set Literal.atom_args_get Literal.atom_args_set Engine.length_enc Engine.ok_enc Engine.all_get Engine.all_set Engine.prog_get Engine.prog_set Engine.st_get Engine.st_set SrcCertm.length_enc SrcCertm.ok_enc SrcCertm.all_get SrcCertm.all_set SrcCertm.b_get SrcCertm.b_set SrcCertm.at__get SrcCertm.at__set GNode.length_enc GNode.ok_enc GNode.all_get GNode.all_set GNode.rule_get GNode.rule_set GNode.pred_get GNode.pred_set GNode.vals_get GNode.vals_set GNode.refs_get GNode.refs_set Term.length_enc Term.ok_enc Term.all_get Term.all_set Term.var_get Term.var_set Term.n_get Term.n_set Env.length_enc Env.ok_enc Env.all_get Env.all_set Env.val_get Env.val_set Env.set_get Env.set_set
attribute [local go_sem] size_put size_ext blk_put free_put blk_alloc free_alloc blk_drew free_drew blk_ext free_ext lookOr_some putOr_some segAt_some cellAt_some storeIn_some put_put put_alloc_new length_arr ok_arr_u8 ok_arr_u32 ok_arr_u64 ok_arr_i64 ok_arr_sl cellsV_agg cellsV_int cellsV_bool cellsV_string cellsV_pointer cellsV_slice cellsV_sl ok_int ok_bool ok_string ok_pointer ok_slice ok_sl toList_arr seg_arr set_arr nth_splice nth_splice0 seg_splice seg_splice0 splice_splice splice_splice0 length_splice_if
attribute [local go_sem ↓] execOp_box
attribute [local go_sem] box_run nth_arr_u8 put_arr_u8 blk_drewN free_drewN put_drewN blk_raw free_raw
/-- A request in memory. -/
def RqC (W : World) (k : Int) (ba : Option Addr) (bn bc : Nat) (ia : Option Addr) (iN : Nat) (p : Int) (sa : Option Addr) (sn : Nat) (q : Rq) : Prop := k = q.kind ∧ Bs W ba bn q.blob ∧ bn ≤ bc ∧ bc ≤ 9223372036854775807 ∧ ItsC W ia iN q.items ∧ p = q.pred ∧ Rw encL 2 W sa sn q.slots
/-- A request that the decoder lets through. -/
structure RqWf (q : Rq) : Prop where
  kind : 1 ≤ q.kind ∧ q.kind ≤ 7
  one : q.kind = 2 ∨ q.kind = 3 ∨ q.kind = 5 → ∃ p args, q.items = [(decide (q.kind = 3), p, args)]
  its : ∀ it ∈ q.items, 0 ≤ it.2.1 ∧ it.2.2.length ≤ 4 ∧ ∀ x ∈ it.2.2, x.length ≤ 64
  len : q.items.length ≤ 255
  pred : 0 ≤ q.pred
  slots : q.slots.length ≤ 4
  blob : q.blob.length ≤ 65536
def itP (q : Rq) : Nat := (q.items.getD 0 (false, 0, [])).2.1.toNat
def itA (q : Rq) : List (List UInt8) := (q.items.getD 0 (false, 0, [])).2.2
/-- A decoded request handled, plainly. -/
def dsR (s : Sv) (q : Rq) (r : PRep) (s' : Sv) : Prop :=
  (q.kind = 1 ∧ PZ (ldR s q.blob) r s') ∨
  (q.kind ≠ 1 ∧ s.inst = none ∧ r = prZ 10 q.kind (-1) ∧ s' = s) ∨
  (∃ t, s.inst = some t ∧ ((q.kind = 2 ∧ PZ (inR s t (itP q) (itA q)) r s') ∨ (q.kind = 3 ∧ PZ (rmR s t (itP q) (itA q)) r s') ∨ (q.kind = 4 ∧ PZ (btR s t q.items) r s') ∨ (q.kind = 5 ∧ PZ (fun rep s' => (rep, s') = qyF s t (itP q) (itA q)) r s') ∨ (q.kind = 6 ∧ ptR s t q.pred.toNat q.slots r s') ∨ (q.kind = 7 ∧ grR s t q.blob r s')))
theorem isI_5 {g j : Nat} (hg : g < 2) : ¬ isI g (.a 5 j) := by rintro ⟨j, e | e⟩ <;> (have := (Lab.a.inj e).1; omega)
theorem SvM.fr5 {O O' : Own} {W V : World} {bs g : Nat} {s : Sv} {CS : List Value} {ip ia : Option Addr} {iN ic : Nat} (h : SvM O W bs g s CS ip ia iN ic) {L : Lab → Prop} (hL : ∀ l, L l → ∃ j, l = .a 5 j) (hF : Fr L O W O' V) : SvM O' V bs g s CS ip ia iN ic := by
  have hg := h.gl
  have hno : ¬ L .no := fun e => by obtain ⟨j, e⟩ := hL _ e; cases e
  have hne : ¬ L (O bs) := by rw [h.own]; exact fun e => by obtain ⟨j, e⟩ := hL _ e; cases e
  refine ⟨hF.blk h.cell hne, hF.free h.cell h.fre hne, (hF.keep bs (blk_lt h.cell)).trans h.own, h.c, h.im.grow (core_fr hF hno), h.gl, h.no, fun t ht => ?_⟩
  obtain ⟨B, bi, e1, e2, e3⟩ := h.ins t ht
  exact ⟨B, bi, e1, Nat.le_trans e2 hF.size, e3.fr hF (fun l hl e => by obtain ⟨j, e⟩ := hL _ e; rw [e] at hl; exact isI_5 hg hl) hno⟩
theorem repZ_bare {P : Reply → Sv → Prop} (h : ∀ rep s', P rep s' → ∃ a b c, rep = repZ a b c) : ∀ rep s', P rep s' → Bare rep := fun rep s' hp => by
  obtain ⟨a, b, c, rfl⟩ := h rep s' hp
  exact bare_Z a b c
theorem inR.z {s s' : Sv} {t : InsS} {pr : Nat} {args : List (List UInt8)} {rep : Reply} (h : inR s t pr args rep s') : ∃ c, rep = repZ c 2 (-1) := by
  rcases h with ⟨-, rfl, -⟩ | ⟨-, mc, t1, co, -, ⟨-, rfl, -⟩ | ⟨-, ⟨-, rfl, -⟩ | ⟨-, code, ix, R', -, ⟨-, rfl, -⟩ | ⟨-, rfl, -⟩⟩⟩⟩ <;> exact ⟨_, rfl⟩
theorem rmR.z {s s' : Sv} {t : InsS} {pr : Nat} {args : List (List UInt8)} {rep : Reply} (h : rmR s t pr args rep s') : ∃ c, rep = repZ c 3 (-1) := by
  rcases h with ⟨-, rfl, -⟩ | ⟨-, code, ix, R', -, ⟨-, rfl, -⟩ | ⟨-, rfl, -⟩⟩ <;> exact ⟨_, rfl⟩
theorem btR.z {s s' : Sv} {t : InsS} {L : List It} {rep : Reply} (h : btR s t L rep s') : ∃ c i, rep = repZ c 4 i := by
  rcases h with ⟨c, i, -, rfl, -⟩ | ⟨-, mc, t1, co, -, ⟨-, rfl, -⟩ | ⟨-, ⟨-, rfl, -⟩ | ⟨-, code, ix, R', -, ⟨-, rfl, -⟩ | ⟨-, rfl, -⟩⟩⟩⟩ <;> exact ⟨_, _, rfl⟩
theorem qyF_bare (s : Sv) (t : InsS) (pr : Nat) (args : List (List UInt8)) : Bare (qyF s t pr args).1 := by
  unfold qyF
  by_cases e : crF t.p pr args.length ≠ 0
  · rw [if_pos e]; exact bare_Z _ _ _
  · rw [if_neg e]; exact ⟨rfl, rfl⟩
theorem reqC_first {W : World} {ia : Option Addr} {iN : Nat} {L : List It} {d : Bool} {p : Int} {args : List (List UInt8)} (h : ItsC W ia iN L) (hL : L = [(d, p, args)]) : iN = 1 ∧ ∃ b C aa ac, ia = some ⟨b, 0, none⟩ ∧ blk W b = some C ∧ 3 ≤ C.length ∧ seg C 0 3 = itemE d p aa args.length ac ∧ Rw encS 1 W aa args.length args := by
  have hl := h.len
  rw [hL] at hl
  obtain ⟨b, C, aa, ac, h1, h2, h3, h4, -, -, -, h8⟩ := its_at h (i := 0) (it := (d, p, args)) (by rw [hL]; rfl)
  exact ⟨hl.symm, b, C, aa, ac, h1, h2, by omega, by rw [Nat.zero_mul] at h4; exact h4, h8⟩
attribute [local go_sem] rq_all rq_ok
set_option maxRecDepth 100000 in
theorem frame69d (f : Nat → Value) : frameN 69 f = #[f 0, f 1, f 2, f 3, f 4, f 5, f 6, f 7, f 8, f 9, f 10, f 11, f 12, f 13, f 14, f 15, f 16, f 17, f 18, f 19, f 20, f 21, f 22, f 23, f 24, f 25, f 26, f 27, f 28, f 29, f 30, f 31, f 32, f 33, f 34, f 35, f 36, f 37, f 38, f 39, f 40, f 41, f 42, f 43, f 44, f 45, f 46, f 47, f 48, f 49, f 50, f 51, f 52, f 53, f 54, f 55, f 56, f 57, f 58, f 59, f 60, f 61, f 62, f 63, f 64, f 65, f 66, f 67, f 68] := by kernel_rfl
set_option maxRecDepth 40000 in
set_option maxHeartbeats 400000 in
theorem dispatch_any {O : Own} {W : World} {bs g : Nat} {s : Sv} {CS : List Value} {ip ia : Option Addr} {iN ic : Nat} (h : SvM O W bs g s CS ip ia iN ic) (hlow : Low O) (hI : ∀ t, s.inst = some t → InG t) (h252 : 0 ≤ s.rst 252 ∧ s.rst 252 ≤ 1000000000) (hcl : 0 ≤ s.calls ∧ s.calls ≤ 100) (hfree : ∀ k, ¬ isI (1 - g) (O k) ∧ O k ≠ .a 0 8) (k : Int) (ba : Option Addr) (bn bc : Nat) (qa : Option Addr) (qn qc : Nat) (p : Int) (sa : Option Addr) (sn sc : Nat) (q : Rq) (hR : RqC (core O W) k ba bn bc qa qn p sa sn q) (hw : RqWf q) : Calls Tryz.prog 51 #[.pointer (some ⟨bs, 0, none⟩), .agg (reqE k ba bn bc qa qn qc p sa sn sc).toArray] W (HdG O W bs (dsR s q)) := by
  obtain ⟨Q, hQ⟩ : ∃ Q, Q = HdG O W bs (dsR s q) := ⟨_, rfl⟩
  rw [← hQ]
  have HQ := hid_of hQ
  have HLOW := hid_of hlow
  have HI := hid_of hI
  have HW := hid_of hw
  obtain ⟨RE, hRE⟩ : ∃ RE, RE = reqE k ba bn bc qa qn qc p sa sn sc := ⟨_, rfl⟩
  have q0 : nth RE 0 = some (.int .i64 k) := by rw [hRE]; rfl
  have q1 : nth RE 1 = some (.slice ba bn bc) := by rw [hRE]; rfl
  have q2 : nth RE 2 = some (.slice qa qn qc) := by rw [hRE]; rfl
  have q3 : nth RE 3 = some (.int .i64 p) := by rw [hRE]; rfl
  have q4 : nth RE 4 = some (.slice sa sn sc) := by rw [hRE]; rfl
  have ql : RE.length = 5 := by rw [hRE]; rfl
  have l0 : 0 < RE.length := by omega
  have l1 : 1 < RE.length := by omega
  have l2 : 2 < RE.length := by omega
  have l3 : 3 < RE.length := by omega
  have l4 : 4 < RE.length := by omega
  rw [← hRE]
  have hgl := h.gl
  have HM := hid_of h
  have HFREE := hid_of hfree
  have HR := hid_of hR
  clear hQ hI hw hRE ql hlow h hfree hR
  go_enter Tryz.func51, Tryz.ntmps51
  go_upto_region 1 with fail
  refine wp_world (fun V => W.Extends V ∧ blk V W.heap.size = some RE ∧ blk V (W.heap.size + 1) = some Reply.zero.enc ∧ free V (W.heap.size + 1) = true ∧ V.heap.size = W.heap.size + 2) ⟨extends_alloc (extends_alloc (ext_Ext (Ext.refl _)) _) _, ?_, ?_, ?_, ?_⟩ ?_
  · rw [blk_alloc, if_neg (by rw [World.size_alloc]; omega), blk_alloc, if_pos rfl]
  · rw [blk_alloc, if_pos (by rw [World.size_alloc])]; try rfl
  · rw [free_alloc, if_pos (by rw [World.size_alloc])]
  · rw [World.size_alloc, World.size_alloc]
  rintro W1 ⟨hx1, hb3, hb4, hf4, hsz1⟩
  try simp only [World.size_alloc]
  obtain ⟨O1, hO1⟩ : ∃ O1, O1 = lab O W.heap.size (.a 5 99) := ⟨_, rfl⟩
  have hF1 : Fr (fun _ => False) O W O1 W1 := by rw [hO1]; exact ⟨hx1.os, hx1.tape, hx1.output, hx1.size, fun k hk => lab_lt hk, fun k hk _ => hx1.block k hk⟩
  obtain ⟨b4, e4⟩ : ∃ b4, b4 = W.heap.size + 1 := ⟨_, rfl⟩
  obtain ⟨b3, e3⟩ : ∃ b3, b3 = W.heap.size := ⟨_, rfl⟩
  rw [← e4] at hb4 hf4 ⊢
  rw [← e3] at hb3 ⊢
  have ho4 : O1 b4 = .a 5 99 := by rw [hO1, e4]; exact lab_ge (by omega)
  have HS1 := hid_of (HM.out.frF hF1)
  have HLO1 : Hid (Low O1) := fun k' i j e => by
    rw [hO1] at e
    by_cases hk : k' < W.heap.size
    · rw [lab_lt hk] at e; exact HLOW.out k' i j e
    · rw [lab_ge (by omega)] at e
      have := (Lab.a.inj e).1
      omega
  have HFR1 : Hid (∀ k, ¬ isI (1 - g) (O1 k) ∧ O1 k ≠ .a 0 8) := fun k' => by
    rw [hO1]
    by_cases hk : k' < W.heap.size
    · rw [lab_lt hk]; exact HFREE.out k'
    · rw [lab_ge (by omega)]; exact ⟨isI_5 (by omega), fun e => by cases e⟩
  have HR1 : Hid (RqC (core O1 W1) k ba bn bc qa qn p sa sn q) := by
    obtain ⟨r1, r2, r3, r4, r5, r6, r7⟩ := HR.out
    have hsub := Sub.ext (core_fr hF1 (fun e => e))
    exact ⟨r1, r2.sub hsub, r3, r4, r5.sub hsub, r6, r7.sub hsub⟩
  have HFIN : Hid (∀ (P : PRep → Sv → Prop) (e : Ending) (V : World), (∀ q' s', P q' s' → dsR s q q' s') → HdG O1 W1 bs P e V → ∃ rep, e = .returned (.agg (Reply.enc rep).toArray) ∧ blk V b4 = some Reply.zero.enc ∧ free V b4 = true ∧ Q (.returned (.agg (Reply.enc rep).toArray)) (put V b4 (Reply.enc rep))) := by
    intro P e V hPP h9
    obtain ⟨rep, q', s', O', g', hP, he, hK, ⟨CS', ip', ia', iN', ic', hS⟩, hfr, hlw, hRc⟩ := h9
    obtain ⟨k1, k2⟩ := hK.keep b4 (blk_lt hb4) (by rw [ho4]; exact .inr ⟨5, 99, rfl, by omega⟩)
    have hk4 : blk V b4 = some Reply.zero.enc := (blk_of_heap k2).trans hb4
    have ho' : O' b4 = .a 5 99 := k1.trans ho4
    refine ⟨rep, he, hk4, (free_of_heap k2).trans hf4, ?_⟩
    rw [HQ.out]
    have hFp : Fr (fun l => l = .a 5 99) O' V O' (put V b4 (Reply.enc rep)) := (Fr.refl _ _ _).put (L := fun l => l = .a 5 99) ho' _
    refine ⟨rep, q', s', O', g', hPP q' s' hP, rfl, ?_, ⟨CS', ip', ia', iN', ic', hS.fr5 (fun l e => ⟨99, e⟩) hFp⟩, hfr, hlw, hRc.sub (Sub.ext (core_fr hFp (fun e => by cases e)))⟩
    exact ((Kp.fr hF1 (fun _ _ e => e)).trans hK).put_new (by omega) _
  have HB1 : Hid (blk W1 b3 = some RE ∧ blk W1 b4 = some Reply.zero.enc ∧ free W1 b4 = true) := ⟨hb3, hb4, hf4⟩
  clear hx1 hsz1 hO1 hF1 e4 e3 ho4 hb4 hf4 HM HFREE HR HLOW
  obtain ⟨r1, r2, r3, r4, r5, r6, r7⟩ := HR1.out
  have hkd : 1 ≤ k ∧ k ≤ 7 := by rw [r1]; exact HW.out.kind
  have hbl : bn ≤ 65536 := by rw [← r2.1]; exact HW.out.blob
  have hsl : sn ≤ 4 := by rw [← r7.1]; exact HW.out.slots
  have hpn : ∃ pr : Nat, p = (pr : Int) := ⟨p.toNat, by have := HW.out.pred; omega⟩
  obtain ⟨pr, hpn⟩ := hpn
  have HPN : Hid (q.pred.toNat = pr) := by show _ = _; omega
  subst hpn
  have HR6 := hid_of r6
  have HK := hid_of r1
  clear r1 r6
  by_cases k1 : k = 1
  · subst k1
    have hcall := hload_any HS1.out HLO1.out hcl HFR1.out ba bn bc hbl r3 r4 q.blob r2
    have HFX := hid_of (HFIN.out (PZ (ldR s q.blob)) · · (fun q' s' hP => .inl ⟨HK.out.symm, hP⟩))
    clear r2 r5 r7
    go_wp2_with fail
    refine hcall.mono ?_
    intro e V h9
    obtain ⟨rep, rfl, hb4, hf4, hq⟩ := HFX.out _ V h9
    dsimp only
    have rl := Reply.length_enc rep
    have ro := Reply.ok_enc rep
    have rs := Reply.all_set Reply.zero rep
    have HPQ := hid_of hq
    obtain ⟨RX, hRX⟩ : ∃ RX, RX = Reply.enc rep := ⟨_, rfl⟩
    rw [← hRX] at HPQ rl ro rs ⊢
    clear hcall h9 hq HFX hRX
    go_wp2_with fail
    refine ret_cell (C := RX) rfl rfl ?_ (by kernel_rfl) (by rw [rl]; kernel_rfl) rfl HPQ.out
    first | (rw [blk_put, if_pos rfl, hb4]; rfl) | (simp only [blk_put, if_true, hb4, Option.map_some]; try rfl)
  have HK1 : Hid (q.kind ≠ 1) := fun e => k1 (HK.out.trans e)
  have hk1b : (k == 1) = false := by simp [k1]
  have hbs := HS1.out.cell
  have c0 := HS1.out.c.c0
  have cl0 : 0 < CS.length := by rw [HS1.out.c.len]; omega
  cases hin : s.inst with
  | none =>
    obtain ⟨e1, -, -⟩ := HS1.out.no hin
    subst e1
    have HIN := hid_of hin
    have hrf := refuse_any W1 k 10
    have HP : Hid (∀ V, W1.Extends V → blk V b4 = some Reply.zero.enc ∧ free V b4 = true ∧ Q (.returned (.agg (Reply.enc (repZ 10 k (-1))).toArray)) (put V b4 (Reply.enc (repZ 10 k (-1))))) := fun V hx => by
      have hF := Fr.grow (L := fun _ => False) (O := O1) hx
      have hS2 := HS1.out.frF hF
      have h9 : HdG O1 W1 bs (fun q' s' => q' = prZ 10 k (-1) ∧ s' = s) (.returned (.agg (Reply.enc (repZ 10 k (-1))).toArray)) V := ⟨repZ 10 k (-1), prZ 10 k (-1), s, norm6 g (lab O1 W1.heap.size .no), g, ⟨rfl, rfl⟩, rfl, (Kp.fr hF (fun _ _ e => e)).norm6 HLO1.out g, ⟨_, _, _, _, _, hS2.norm6⟩, n6_free hgl _, n6_low hgl _, (bare_Z _ _ _).c _⟩
      obtain ⟨rep, e1, e2, e3, e4⟩ := HFIN.out _ _ V (fun q' s' hP => .inr (.inl ⟨HK1.out, HIN.out, by rw [hP.1, HK.out], hP.2⟩)) h9
      have e5 : Reply.enc rep = Reply.enc (repZ 10 k (-1)) := by
        have := e1
        injection this with e6
        injection e6 with e7
        exact (congrArg Array.toList e7).symm
      rw [e5] at e4
      exact ⟨e2, e3, e4⟩
    have rl := Reply.length_enc (repZ 10 k (-1))
    have ro := Reply.ok_enc (repZ 10 k (-1))
    have rs := Reply.all_set Reply.zero (repZ 10 k (-1))
    obtain ⟨RX, hRX⟩ : ∃ RX, RX = Reply.enc (repZ 10 k (-1)) := ⟨_, rfl⟩
    rw [← hRX] at hrf HP rl ro rs
    clear hRX hin r2 r5 r7
    go_wp2_with fail
    refine hrf.mono ?_
    rintro e Vr ⟨rfl, hxr⟩
    obtain ⟨hb4, hf4, hq⟩ := HP.out Vr hxr
    have HPQ := hid_of hq
    clear hrf hxr HP hq
    dsimp only
    go_wp2_with fail
    refine ret_cell (C := RX) rfl rfl ?_ (by kernel_rfl) (by rw [rl]; kernel_rfl) rfl HPQ.out
    first | (rw [blk_put, if_pos rfl, hb4]; rfl) | (simp only [blk_put, if_true, hb4, Option.map_some]; try rfl)
  | some t =>
    obtain ⟨B, bi, e1, -, -⟩ := HS1.out.ins t hin
    subst e1
    have HIN := hid_of hin
    have hg := HI.out t hin
    have hok := hg.ok
    have hub := hg.ub
    have hlv := hg.live
    have HG := hid_of hg
    have HIS := hid_of HW.out.its
    have HQE : Hid (∀ P, (q.kind = 2 ∧ P) ∨ (q.kind = 3 ∧ P) ∨ True) := fun P => .inr (.inr trivial)
    clear hin HQE
    by_cases k2 : k = 2
    · subst k2
      obtain ⟨ip1, args, hit⟩ := HW.out.one (by rw [← HK.out]; decide)
      obtain ⟨rfl, bq, CQ, aa, ac, rfl, w2, w3, w4, w8⟩ := reqC_first r5 hit
      have hmem : ((decide (q.kind = 3), ip1, args) : It) ∈ q.items := by rw [hit]; exact List.mem_cons_self
      obtain ⟨hi0, hal, -⟩ := HIS.out _ hmem
      dsimp only at hi0 hal
      obtain ⟨ip0, hip⟩ : ∃ ip0 : Nat, ip1 = (ip0 : Int) := ⟨ip1.toNat, by omega⟩
      subst hip
      have hdq : decide (q.kind = 3) = false := by rw [← HK.out]; rfl
      rw [hdq] at w4
      have HIA : Hid (itP q = ip0 ∧ itA q = args) := by
        show _ ∧ _
        unfold itP itA
        rw [hit]
        exact ⟨by show ((ip0 : Int)).toNat = ip0; omega, rfl⟩
      obtain ⟨IE2, hIE2⟩ : ∃ IE2, IE2 = itemE false (ip0 : Int) aa args.length ac := ⟨_, rfl⟩
      rw [← hIE2] at w4
      have hbq := (core_blk w2).1
      have w3' : 0 + 3 ≤ CQ.length := by omega
      clear hit hmem hi0 hdq w2
      have hcall0 := insert_any HS1.out HIN.out hok (M := 200000) (by omega) (by omega) h252 hcl HFR1.out ip0 args.length aa ac args w8 hal (fun mc t1 co _ hm => ⟨(hm.ing HG.out).1.ok, (hm.ing HG.out).1.ub, (hm.ing HG.out).2⟩)
      have hcall := hcall0.mono (R' := HdG O1 W1 bs (PZ (inR s t ip0 args))) (fun e V h9 => h9.g HLO1.out (repZ_bare fun rep s' hP => by obtain ⟨c, e⟩ := hP.z; exact ⟨_, _, _, e⟩))
      rw [← hIE2] at hcall
      clear hIE2 hcall0
      have HFX := hid_of (HFIN.out (PZ (inR s t ip0 args)) · · (fun q' s' hP => .inr (.inr ⟨t, HIN.out, .inl ⟨HK.out.symm, by rw [HIA.out.1, HIA.out.2]; exact hP⟩⟩)))
      clear r2 r5 r7
      go_wp2_with fail
      refine hcall.mono ?_
      intro e V h9
      obtain ⟨rep, rfl, hb4, hf4, hq⟩ := HFX.out _ V h9
      dsimp only
      have rl := Reply.length_enc rep
      have ro := Reply.ok_enc rep
      have rs := Reply.all_set Reply.zero rep
      have HPQ := hid_of hq
      obtain ⟨RX, hRX⟩ : ∃ RX, RX = Reply.enc rep := ⟨_, rfl⟩
      rw [← hRX] at HPQ rl ro rs ⊢
      clear hcall h9 hq HFX hRX
      go_wp2_with fail
      refine ret_cell (C := RX) rfl rfl ?_ (by kernel_rfl) (by rw [rl]; kernel_rfl) rfl HPQ.out
      first | (rw [blk_put, if_pos rfl, hb4]; rfl) | (simp only [blk_put, if_true, hb4, Option.map_some]; try rfl)
    have hk2b : (k == 2) = false := by simp [k2]
    by_cases k3 : k = 3
    · subst k3
      obtain ⟨ip1, args, hit⟩ := HW.out.one (by rw [← HK.out]; decide)
      obtain ⟨rfl, bq, CQ, aa, ac, rfl, w2, w3, w4, w8⟩ := reqC_first r5 hit
      have hmem : ((decide (q.kind = 3), ip1, args) : It) ∈ q.items := by rw [hit]; exact List.mem_cons_self
      obtain ⟨hi0, hal, -⟩ := HIS.out _ hmem
      dsimp only at hi0 hal
      obtain ⟨ip0, hip⟩ : ∃ ip0 : Nat, ip1 = (ip0 : Int) := ⟨ip1.toNat, by omega⟩
      subst hip
      have hdq : decide (q.kind = 3) = true := by rw [← HK.out]; rfl
      rw [hdq] at w4
      have HIA : Hid (itP q = ip0 ∧ itA q = args) := by
        show _ ∧ _
        unfold itP itA
        rw [hit]
        exact ⟨by show ((ip0 : Int)).toNat = ip0; omega, rfl⟩
      obtain ⟨IE2, hIE2⟩ : ∃ IE2, IE2 = itemE true (ip0 : Int) aa args.length ac := ⟨_, rfl⟩
      rw [← hIE2] at w4
      have hbq := (core_blk w2).1
      have w3' : 0 + 3 ≤ CQ.length := by omega
      clear hit hmem hi0 hdq w2
      have hcall0 := remove_any HS1.out HIN.out hok (M := 200000) hub (by omega) hcl true ip0 args.length aa ac args w8 hal
      have hcall := hcall0.mono (R' := HdG O1 W1 bs (PZ (rmR s t ip0 args))) (fun e V h9 => h9.g HLO1.out (repZ_bare fun rep s' hP => by obtain ⟨c, e⟩ := hP.z; exact ⟨_, _, _, e⟩))
      rw [← hIE2] at hcall
      clear hIE2 hcall0
      have HFX := hid_of (HFIN.out (PZ (rmR s t ip0 args)) · · (fun q' s' hP => .inr (.inr ⟨t, HIN.out, .inr (.inl ⟨HK.out.symm, by rw [HIA.out.1, HIA.out.2]; exact hP⟩)⟩)))
      clear r2 r5 r7
      go_wp2_with fail
      refine hcall.mono ?_
      intro e V h9
      obtain ⟨rep, rfl, hb4, hf4, hq⟩ := HFX.out _ V h9
      dsimp only
      have rl := Reply.length_enc rep
      have ro := Reply.ok_enc rep
      have rs := Reply.all_set Reply.zero rep
      have HPQ := hid_of hq
      obtain ⟨RX, hRX⟩ : ∃ RX, RX = Reply.enc rep := ⟨_, rfl⟩
      rw [← hRX] at HPQ rl ro rs ⊢
      clear hcall h9 hq HFX hRX
      go_wp2_with fail
      refine ret_cell (C := RX) rfl rfl ?_ (by kernel_rfl) (by rw [rl]; kernel_rfl) rfl HPQ.out
      first | (rw [blk_put, if_pos rfl, hb4]; rfl) | (simp only [blk_put, if_true, hb4, Option.map_some]; try rfl)
    have hk3b : (k == 3) = false := by simp [k3]
    by_cases k4 : k = 4
    · subst k4
      have hqn : qn ≤ 1000 := by have h1 := r5.len; have h2 := HW.out.len; omega
      have hcall0 := hbatch_any HS1.out HIN.out hok (M := 200000) (by omega) (by omega) h252 hcl HFR1.out (fun k' _ e => by have := HLO1.out k' 9 8 e; omega) qa qn qc q.items r5 hqn (fun it hit => (HIS.out it hit).2.1) (fun it hit => (HIS.out it hit).1) (fun mc t1 co _ hm => ⟨(hm.ing HG.out).1.ok, (hm.ing HG.out).1.ub, (hm.ing HG.out).2⟩)
      have hcall := hcall0.mono (R' := HdG O1 W1 bs (PZ (btR s t q.items))) (fun e V h9 => h9.g HLO1.out (repZ_bare fun rep s' hP => by obtain ⟨c, i, e⟩ := hP.z; exact ⟨_, _, _, e⟩))
      have HFX := hid_of (HFIN.out (PZ (btR s t q.items)) · · (fun q' s' hP => .inr (.inr ⟨t, HIN.out, .inr (.inr (.inl ⟨HK.out.symm, hP⟩))⟩)))
      clear hcall0
      clear r2 r5 r7
      go_wp2_with fail
      refine hcall.mono ?_
      intro e V h9
      obtain ⟨rep, rfl, hb4, hf4, hq⟩ := HFX.out _ V h9
      dsimp only
      have rl := Reply.length_enc rep
      have ro := Reply.ok_enc rep
      have rs := Reply.all_set Reply.zero rep
      have HPQ := hid_of hq
      obtain ⟨RX, hRX⟩ : ∃ RX, RX = Reply.enc rep := ⟨_, rfl⟩
      rw [← hRX] at HPQ rl ro rs ⊢
      clear hcall h9 hq HFX hRX
      go_wp2_with fail
      refine ret_cell (C := RX) rfl rfl ?_ (by kernel_rfl) (by rw [rl]; kernel_rfl) rfl HPQ.out
      first | (rw [blk_put, if_pos rfl, hb4]; rfl) | (simp only [blk_put, if_true, hb4, Option.map_some]; try rfl)
    have hk4b : (k == 4) = false := by simp [k4]
    by_cases k5 : k = 5
    · subst k5
      obtain ⟨ip1, args, hit⟩ := HW.out.one (by rw [← HK.out]; decide)
      obtain ⟨rfl, bq, CQ, aa, ac, rfl, w2, w3, w4, w8⟩ := reqC_first r5 hit
      have hmem : ((decide (q.kind = 3), ip1, args) : It) ∈ q.items := by rw [hit]; exact List.mem_cons_self
      obtain ⟨hi0, hal, -⟩ := HIS.out _ hmem
      dsimp only at hi0 hal
      obtain ⟨ip0, hip⟩ : ∃ ip0 : Nat, ip1 = (ip0 : Int) := ⟨ip1.toNat, by omega⟩
      subst hip
      have hdq : decide (q.kind = 3) = false := by rw [← HK.out]; rfl
      rw [hdq] at w4
      have HIA : Hid (itP q = ip0 ∧ itA q = args) := by
        show _ ∧ _
        unfold itP itA
        rw [hit]
        exact ⟨by show ((ip0 : Int)).toNat = ip0; omega, rfl⟩
      obtain ⟨IE2, hIE2⟩ : ∃ IE2, IE2 = itemE false (ip0 : Int) aa args.length ac := ⟨_, rfl⟩
      rw [← hIE2] at w4
      have hbq := (core_blk w2).1
      have w3' : 0 + 3 ≤ CQ.length := by omega
      clear hit hmem hi0 hdq w2
      have hcall0 := query_any HS1.out HIN.out hok hcl false ip0 args.length aa ac args w8 hal
      have hcall := hcall0.mono (R' := HdG O1 W1 bs (PZ fun rep s' => (rep, s') = qyF s t ip0 args)) (fun e V h9 => h9.g HLO1.out (qyF_bare s t ip0 args))
      rw [← hIE2] at hcall
      clear hIE2 hcall0
      have HFX := hid_of (HFIN.out (PZ fun rep s' => (rep, s') = qyF s t ip0 args) · · (fun q' s' hP => .inr (.inr ⟨t, HIN.out, .inr (.inr (.inr (.inl ⟨HK.out.symm, by rw [HIA.out.1, HIA.out.2]; exact hP⟩)))⟩)))
      clear r2 r5 r7
      go_wp2_with fail
      refine hcall.mono ?_
      intro e V h9
      obtain ⟨rep, rfl, hb4, hf4, hq⟩ := HFX.out _ V h9
      dsimp only
      have rl := Reply.length_enc rep
      have ro := Reply.ok_enc rep
      have rs := Reply.all_set Reply.zero rep
      have HPQ := hid_of hq
      obtain ⟨RX, hRX⟩ : ∃ RX, RX = Reply.enc rep := ⟨_, rfl⟩
      rw [← hRX] at HPQ rl ro rs ⊢
      clear hcall h9 hq HFX hRX
      go_wp2_with fail
      refine ret_cell (C := RX) rfl rfl ?_ (by kernel_rfl) (by rw [rl]; kernel_rfl) rfl HPQ.out
      first | (rw [blk_put, if_pos rfl, hb4]; rfl) | (simp only [blk_put, if_true, hb4, Option.map_some]; try rfl)
    have hk5b : (k == 5) = false := by simp [k5]
    by_cases k6 : k = 6
    · subst k6
      have hcall := hpattern_any HS1.out HLO1.out HIN.out hok hcl pr sa sn sc q.slots r7 hsl
      have HFX := hid_of (HFIN.out (ptR s t pr q.slots) · · (fun q' s' hP => .inr (.inr ⟨t, HIN.out, .inr (.inr (.inr (.inr (.inl ⟨HK.out.symm, by rw [HPN.out]; exact hP⟩))))⟩)))
      clear r2 r5 r7
      go_wp2_with fail
      refine hcall.mono ?_
      intro e V h9
      obtain ⟨rep, rfl, hb4, hf4, hq⟩ := HFX.out _ V h9
      dsimp only
      have rl := Reply.length_enc rep
      have ro := Reply.ok_enc rep
      have rs := Reply.all_set Reply.zero rep
      have HPQ := hid_of hq
      obtain ⟨RX, hRX⟩ : ∃ RX, RX = Reply.enc rep := ⟨_, rfl⟩
      rw [← hRX] at HPQ rl ro rs ⊢
      clear hcall h9 hq HFX hRX
      go_wp2_with fail
      refine ret_cell (C := RX) rfl rfl ?_ (by kernel_rfl) (by rw [rl]; kernel_rfl) rfl HPQ.out
      first | (rw [blk_put, if_pos rfl, hb4]; rfl) | (simp only [blk_put, if_true, hb4, Option.map_some]; try rfl)
    have hk6b : (k == 6) = false := by simp [k6]
    obtain rfl : k = 7 := by omega
    have hcall := hgrant_any HS1.out HLO1.out HIN.out hok hcl ba bn bc hbl r3 r4 q.blob r2 (fun h0 => by
      obtain ⟨f1, f2, f3⟩ := chkF_ok HG.out h0
      exact ⟨f1, f2, fun c hc => f3.1 c hc⟩)
    have HFX := hid_of (HFIN.out (grR s t q.blob) · · (fun q' s' hP => .inr (.inr ⟨t, HIN.out, .inr (.inr (.inr (.inr (.inr ⟨HK.out.symm, hP⟩))))⟩)))
    clear r2 r5 r7
    go_wp2_with fail
    refine hcall.mono ?_
    intro e V h9
    obtain ⟨rep, rfl, hb4, hf4, hq⟩ := HFX.out _ V h9
    dsimp only
    have rl := Reply.length_enc rep
    have ro := Reply.ok_enc rep
    have rs := Reply.all_set Reply.zero rep
    have HPQ := hid_of hq
    obtain ⟨RX, hRX⟩ : ∃ RX, RX = Reply.enc rep := ⟨_, rfl⟩
    rw [← hRX] at HPQ rl ro rs ⊢
    clear hcall h9 hq HFX hRX
    go_wp2_with fail
    refine ret_cell (C := RX) rfl rfl ?_ (by kernel_rfl) (by rw [rl]; kernel_rfl) rfl HPQ.out
    first | (rw [blk_put, if_pos rfl, hb4]; rfl) | (simp only [blk_put, if_true, hb4, Option.map_some]; try rfl)
end Go.Proofs.Qxb6500787aGreat
