
import Derived.Test.Qxb6500787aGreatXh
import Derived.StillTailTactics
import Derived.Deep.QuietTactic
import Derived.BigQuiet
import Derived.Deep.RegionHeld
import Derived.Deep.CutRange
import Derived.Laws.ResultCell
import Derived.Laws.Rows
import Derived.DeepKeys
import Derived.DataBytes
import Derived.Laws.StructEq
import Derived.Laws.AppendOwn
import Derived.Laws.MakeOwn
import Derived.Lib.AppendStr
set_option linter.unusedSimpArgs false
set_option linter.unusedVariables false
namespace Go.Proofs.Qxb6500787aGreat
open Go.RowKit Go.Blk
attribute [local go_sem ↓] execOp_load execOp_store execOp_alloc
attribute [local go_sem] Tryz.ld26 Tryz.st26 Tryz.ld27 Tryz.st27 Tryz.ld28 Tryz.st28 Tryz.ld3 Tryz.st3 Tryz.ld29 Tryz.st29 Tryz.ld44 Tryz.st44 Tryz.ld4 Tryz.st4 Tryz.ld50 Tryz.st50 Tryz.ld32 Tryz.st32 Tryz.ld49 Tryz.st49 Tryz.ld68 Tryz.st68 Tryz.ld9 Tryz.st9 Tryz.ld40 Tryz.st40 Tryz.ld138 Tryz.st138 Tryz.ld139 Tryz.st139 Tryz.ld146 Tryz.st146 Tryz.ld183 Tryz.st183 Tryz.ld184 Tryz.st184 Tryz.ld192 Tryz.st192 Tryz.ld195 Tryz.st195 Tryz.ld217 Tryz.st217 Tryz.ld159 Tryz.st159 Tryz.ld142 Tryz.st142 Tryz.ld2 Tryz.st2 Tryz.ld5 Tryz.st5 Tryz.ld12 Tryz.st12 Tryz.ld21 Tryz.st21 Tryz.ld22 Tryz.st22 Tryz.ld24 Tryz.st24 Tryz.ld58 Tryz.st58 Tryz.ld97 Tryz.st97 Tryz.ld101 Tryz.st101 Tryz.ld116 Tryz.st116 Tryz.ld121 Tryz.st121 Tryz.ld135 Tryz.st135 Tryz.ld136 Tryz.st136 Tryz.ld143 Tryz.st143 Tryz.ld148 Tryz.st148 Tryz.ld154 Tryz.st154 Tryz.ld173 Tryz.st173 Tryz.ld187 Tryz.st187 Tryz.ld222 Tryz.st222 Tryz.ld241 Tryz.st241 Tryz.ld248 Tryz.st248 Tryz.ld268 Tryz.st268 Tryz.ld272 Tryz.st272 Tryz.ld153 Tryz.st153 Tryz.ld255 Tryz.st255 Tryz.ld256 Tryz.st256 Tryz.ld129 Tryz.st129 Tryz.ld152 Tryz.st152 Tryz.ld31 Tryz.st31 Tryz.ld46 Tryz.st46 Tryz.ld52 Tryz.st52 Tryz.ld54 Tryz.st54 Tryz.ld60 Tryz.st60 Tryz.ld70 Tryz.st70 Tryz.ld74 Tryz.st74 Tryz.ld93 Tryz.st93 Tryz.ld141 Tryz.st141 Tryz.ld151 Tryz.st151 Tryz.ld170 Tryz.st170 Tryz.ld186 Tryz.st186 Tryz.ld189 Tryz.st189 Tryz.ld194 Tryz.st194 Tryz.ld197 Tryz.st197 Tryz.ld219 Tryz.st219 Tryz.ld224 Tryz.st224 Tryz.ld230 Tryz.st230 Tryz.ld235 Tryz.st235 Tryz.ld243 Tryz.st243 Tryz.ld247 Tryz.st247 Tryz.ld252 Tryz.st252 Tryz.ld258 Tryz.st258 Tryz.al153 Tryz.al255 Tryz.al256 Tryz.al129 Tryz.al152 Tryz.al31 Tryz.al46 Tryz.al52 Tryz.al54 Tryz.al60 Tryz.al70 Tryz.al74 Tryz.al93 Tryz.al141 Tryz.al151 Tryz.al170 Tryz.al186 Tryz.al189 Tryz.al194 Tryz.al197 Tryz.al219 Tryz.al224 Tryz.al230 Tryz.al235 Tryz.al243 Tryz.al247 Tryz.al252 Tryz.al258
attribute [local go_sem] Request.length_enc Request.ok_enc Request.all_get Request.all_set Request.kind_get Request.kind_set Request.blob_get Request.blob_set Request.items_get Request.items_set Request.pred_get Request.pred_set Request.slots_get Request.slots_set Trace.length_enc Trace.ok_enc Trace.all_get Trace.all_set Trace.op_get Trace.op_set Trace.calls_get Trace.calls_set Item.length_enc Item.ok_enc Item.all_get Item.all_set Item.del_get Item.del_set Item.pred_get Item.pred_set Item.args_get Item.args_set Reply.length_enc Reply.ok_enc Reply.all_get Reply.all_set Reply.code_get Reply.code_set Reply.kind_get Reply.kind_set Reply.index_get Reply.index_set Reply.yes_get Reply.yes_set Reply.preds_get Reply.preds_set Reply.rules_get Reply.rules_set Reply.arity_get Reply.arity_set Reply.rows_get Reply.rows_set Reply.fact_get Reply.fact_set Reply.fact_del_get Reply.fact_del_set Reply.fact_pred_get Reply.fact_pred_set Reply.fact_args_get Reply.fact_args_set GEntry.length_enc GEntry.ok_enc GEntry.all_get GEntry.all_set GEntry.seq_get GEntry.seq_set GEntry.kind_get GEntry.kind_set GEntry.code_get GEntry.code_set GOp.length_enc GOp.ok_enc GOp.all_get GOp.all_set GOp.kind_get GOp.kind_set GOp.raw_get GOp.raw_set Reader.length_enc Reader.ok_enc Reader.all_get Reader.all_set Reader.buf_get Reader.buf_set Reader.at__get Reader.at__set Slot.length_enc Slot.ok_enc Slot.all_get Slot.all_set Slot.bound_get Slot.bound_set Slot.name_get Slot.name_set Session.length_enc Session.ok_enc Session.all_get Session.all_set Session.svc_get Session.svc_set Session.buf_get Session.buf_set Session.closed_get Session.closed_set GProgram.length_enc GProgram.ok_enc GProgram.all_get GProgram.all_set GProgram.pool_get GProgram.pool_set GProgram.preds_get GProgram.preds_set GProgram.rules_get GProgram.rules_set GProgram.strata_get GProgram.strata_set PredInfo.length_enc PredInfo.ok_enc PredInfo.all_get PredInfo.all_set PredInfo.arity_get PredInfo.arity_set PredInfo.base_get PredInfo.base_set PredInfo.stratum_get PredInfo.stratum_set Change.length_enc Change.ok_enc Change.all_get Change.all_set Change.del_get Change.del_set Change.pred_get Change.pred_set Change.t_get Change.t_set Store.length_enc Store.ok_enc Store.all_get Store.all_set Store.names_get Store.names_set Store.arity_get Store.arity_set Store.rows_get Store.rows_set Src.length_enc Src.ok_enc Src.all_get Src.all_set Src.b_get Src.b_set Src.at__get Src.at__set Atom.length_enc Atom.ok_enc Atom.all_get Atom.all_set Atom.pred_get Atom.pred_set Atom.args_get Atom.args_set GRule.length_enc GRule.ok_enc GRule.all_get GRule.all_set GRule.head_get GRule.head_set GRule.body_get GRule.body_set GRule.head_pred_get GRule.head_pred_set GRule.head_args_get GRule.head_args_set Cert.length_enc Cert.ok_enc Cert.all_get Cert.all_set Cert.names_get Cert.names_set Cert.nodes_get Cert.nodes_set Fact.length_enc Fact.ok_enc Fact.all_get Fact.all_set Fact.pred_get Fact.pred_set Fact.t_get Fact.t_set Literal.length_enc Literal.ok_enc Literal.all_get Literal.all_set Literal.neg_get Literal.neg_set Literal.atom_get Literal.atom_set Literal.atom_pred_get Literal.atom_pred_set Literal.atom_args_get Literal.atom_args_set Engine.length_enc Engine.ok_enc Engine.all_get Engine.all_set Engine.prog_get Engine.prog_set Engine.st_get Engine.st_set SrcCertm.length_enc SrcCertm.ok_enc SrcCertm.all_get SrcCertm.all_set SrcCertm.b_get SrcCertm.b_set SrcCertm.at__get SrcCertm.at__set GNode.length_enc GNode.ok_enc GNode.all_get GNode.all_set GNode.rule_get GNode.rule_set GNode.pred_get GNode.pred_set GNode.vals_get GNode.vals_set GNode.refs_get GNode.refs_set Term.length_enc Term.ok_enc Term.all_get Term.all_set Term.var_get Term.var_set Term.n_get Term.n_set Env.length_enc Env.ok_enc Env.all_get Env.all_set Env.val_get Env.val_set Env.set_get Env.set_set
attribute [local go_sem] size_put size_ext blk_put free_put blk_alloc free_alloc blk_drew free_drew blk_ext free_ext lookOr_some putOr_some segAt_some cellAt_some storeIn_some put_put put_alloc_new length_arr ok_arr_u8 ok_arr_u32 ok_arr_u64 ok_arr_i64 ok_arr_sl cellsV_agg cellsV_int cellsV_bool cellsV_string cellsV_pointer cellsV_slice cellsV_sl ok_int ok_bool ok_string ok_pointer ok_slice ok_sl toList_arr seg_arr set_arr nth_splice nth_splice0 seg_splice seg_splice0 splice_splice splice_splice0 length_splice_if
attribute [local go_sem ↓] execOp_box
attribute [local go_sem] box_run nth_arr_u8 put_arr_u8 blk_drewN free_drewN put_drewN blk_raw free_raw
theorem build46z (w : World) : (buildOp 103 #[]).run Tryz.prog w = .ok (.value (.agg (Trace.zero.enc).toArray)) w := by kernel_rfl
theorem Reply.enc_inj {x y : Reply} (h : Reply.enc x = Reply.enc y) : x = y := by
  have g : ∀ k, nth (Reply.enc x) k = nth (Reply.enc y) k := fun k => by rw [h]
  obtain ⟨a1, a2, a3, a4, a5, a6, a7, ⟨a8, a9, a10⟩, ⟨a11, a12, ⟨a13, a14, a15⟩⟩⟩ := x
  obtain ⟨c1, c2, c3, c4, c5, c6, c7, ⟨c8, c9, c10⟩, ⟨c11, c12, ⟨c13, c14, c15⟩⟩⟩ := y
  have i : ∀ {u v : Int}, some (Value.int .i64 u) = some (Value.int .i64 v) → u = v := fun h => by injection h with h; injection h
  have b : ∀ {u v : Bool}, some (Value.bool u) = some (Value.bool v) → u = v := fun h => by injection h with h; injection h
  have sl : ∀ {u v : Option Addr} {n m c d : Nat}, some (Value.slice u n c) = some (Value.slice v m d) → u = v ∧ n = m ∧ c = d := fun h => by injection h with h; injection h with h1 h2 h3; exact ⟨h1, h2, h3⟩
  have e1 : a1 = c1 := i (g 0)
  have e2 : a2 = c2 := i (g 1)
  have e3 : a3 = c3 := i (g 2)
  have e4 : a4 = c4 := b (g 3)
  have e5 : a5 = c5 := i (g 4)
  have e6 : a6 = c6 := i (g 5)
  have e7 : a7 = c7 := i (g 6)
  obtain ⟨e8, e9, e10⟩ := sl (g 7)
  have e11 : a11 = c11 := b (g 8)
  have e12 : a12 = c12 := i (g 9)
  obtain ⟨e13, e14, e15⟩ := sl (g 10)
  subst e1 e2 e3 e4 e5 e6 e7 e8 e9 e10 e11 e12 e13 e14 e15
  rfl
theorem Dec2.sub {W W' : World} {s : Sl} {xs : List UInt8} (h : Dec2 W s xs) (hs : Sub W W') : Dec2 W' s xs := by
  rcases h with h | ⟨h1, h2⟩
  · exact .inl h
  · exact .inr ⟨h1.sub hs, h2⟩
/-- How the service is left by a request: the reply's bytes are new and constant. -/
def SrvPost (O : Own) (W : World) (bs : Nat) (s : Sv) (raw : List UInt8) (e : Ending) (V : World) : Prop := ∃ a n c q s' O' g', e = .returned (.slice a n c) ∧ svR s raw q s' ∧ RepB q ∧ Kp O W O' V ∧ SvAt O' V bs g' s' ∧ (∀ k, ¬ isI (1 - g') (O' k) ∧ O' k ≠ .a 0 8) ∧ Low O' ∧ Bs (core O' V) a n (encR' q) ∧ n ≤ c ∧ c ≤ maxLen
theorem reqOk_c {V : World} {B : Nat} {O : Own} {k : Int} {ba : Option Addr} {bn bc : Nat} {ia : Option Addr} {iN ic : Nat} {p : Int} {sa : Option Addr} {sn sc : Nat} {q : Rq} (h : ReqOk V B k ba bn bc ia iN ic p sa sn sc q) (hO : ∀ b, B ≤ b → O b = .no) : RqC (core O V) k ba bn bc ia iN p sa sn q := by
  obtain ⟨h1, h2, ⟨K, h3, h4, h5⟩, h6, h7⟩ := h
  obtain ⟨b1, b2, b3⟩ := bs_own h2
  have hsub : ∀ {n : Nat}, True := trivial
  refine ⟨h1, ?_, b2, ?_, ⟨K, ?_, h4, fun i d it hd hi => ?_⟩, h6, ?_⟩
  · refine ⟨b1.1, fun h0 => ?_, b1.2.2⟩
    obtain ⟨b, o, C, e1, e2, e3, e4⟩ := b1.2.1 h0
    refine ⟨b, o, C, e1, blk_core e2 (hO b ?_), e3, e4⟩
    have hr := row_at h2 b (by rw [e1]; rfl)
    exact hr.1
  · simp only [maxLen] at b3; omega
  · exact (rw_own encD_len h3).1.tocore (fun b C e _ => hO b (row_at h3 b (by rw [e]; rfl)).1)
  · obtain ⟨q1, q2, q3⟩ := h5 i d it hd hi
    refine ⟨q1, q2, ?_⟩
    exact (rw_own encS_len q3).1.tocore (fun b C e _ => hO b (row_at q3 b (by rw [e]; rfl)).1)
  · exact (rw_own encL_len h7).1.tocore (fun b C e _ => hO b (row_at h7 b (by rw [e]; rfl)).1)
/-- The numbers of the service's block changed. -/
theorem SvM.num {O : Own} {W V : World} {bs g : Nat} {s : Sv} {CS : List Value} {ip ia : Option Addr} {iN ic : Nat} (h : SvM O W bs g s CS ip ia iN ic) {C' : List Value} (hF : Fr (fun l => l = .a 0 0) O W O V) (hb : blk V bs = some C') (hf : free V bs = true) (hl : C'.length = 253) (hc : ∀ k, k < 2 → nth C' k = nth CS k) {op calls : Int} {r : Nat → Int} (h2 : nth C' 2 = some (.int .i64 op)) (h3 : nth C' 3 = some (.int .i64 calls)) (hr : ∀ k, 4 ≤ k → k < 253 → nth C' k = some (.int .i64 (r k))) : SvM O V bs g ⟨s.inst, s.img, op, calls, r⟩ C' ip ia iN ic := by
  refine ⟨hb, hf, h.own, ⟨hl, by rw [hc 0 (by omega)]; exact h.c.c0, by rw [hc 1 (by omega)]; exact h.c.c1, h2, h3, hr⟩, h.im.grow (core_fr hF (fun e => by cases e)), h.gl, h.no, fun t ht => ?_⟩
  obtain ⟨B, bi, e1, e2, e3⟩ := h.ins t ht
  refine ⟨B, bi, e1, Nat.le_trans e2 hF.size, e3.fr hF (fun l hl e => ?_) (fun e => by cases e)⟩
  obtain ⟨j, e2 | e2⟩ := hl <;> (rw [e2] at e; have := (Lab.a.inj e).1; omega)
theorem splice_nth2 {C X : List Value} {o : Nat} (h : o + X.length ≤ C.length) (k : Nat) : nth (splice C o X) k = if o ≤ k ∧ k < o + X.length then nth X (k - o) else nth C k := by
  unfold nth splice
  by_cases h1 : k < o
  · rw [if_neg (by omega), List.append_assoc, List.getElem?_append_left (by rw [List.length_take]; omega), List.getElem?_take, if_pos h1]
  · by_cases h2 : k < o + X.length
    · rw [if_pos ⟨by omega, h2⟩, List.append_assoc, List.getElem?_append_right (by rw [List.length_take]; omega), List.length_take, Nat.min_eq_left (by omega), List.getElem?_append_left (by omega)]
    · rw [if_neg (by omega), List.getElem?_append_right (by rw [List.length_append, List.length_take]; omega), List.length_append, List.length_take, Nat.min_eq_left (by omega), List.getElem?_drop]
      congr 1
      omega
theorem GEntry_nth (x : GEntry) (j : Nat) (hj : j < 3) : nth (GEntry.enc x) j = some (.int .i64 (if j = 0 then x.seq else if j = 1 then x.kind else x.code)) := by
  match j, hj with
  | 0, _ => rfl
  | 1, _ => rfl
  | 2, _ => rfl
theorem onG_fr {W V : World} {bs : Nat} {C : List Value} (h : OnG W bs V C) {O : Own} (ho : O bs = .a 0 0) : Fr (fun l => l = .a 0 0) O W O V := ⟨h.os, h.tape, h.output, h.size, fun _ _ => rfl, fun k hk hn => h.heap k hk (fun e => hn (by rw [e]; exact ho))⟩
attribute [local go_sem ↓] execOp_build
attribute [local go_sem] build46z rq_all rq_ok rq_put
set_option maxRecDepth 100000 in
theorem frame39v (f : Nat → Value) : frameN 39 f = #[f 0, f 1, f 2, f 3, f 4, f 5, f 6, f 7, f 8, f 9, f 10, f 11, f 12, f 13, f 14, f 15, f 16, f 17, f 18, f 19, f 20, f 21, f 22, f 23, f 24, f 25, f 26, f 27, f 28, f 29, f 30, f 31, f 32, f 33, f 34, f 35, f 36, f 37, f 38] := by kernel_rfl
set_option maxRecDepth 40000 in
set_option maxHeartbeats 1000000 in
theorem serve_raw {O : Own} {W : World} {bs g : Nat} {s : Sv} (h : SvAt O W bs g s) (hlow : Low O) (hfree : ∀ k, ¬ isI (1 - g) (O k) ∧ O k ≠ .a 0 8) {m : Int} (hI : SvI m s) (hm : 1000 ≤ m ∧ m ≤ 900000000) (x : Sl) (raw : List UInt8) (hX : ∀ C V, (put W bs C).Extends V → Dec2 V x raw) (hrl : raw.length ≤ 65536) : Calls Tryz.prog 17 #[.pointer (some ⟨bs, 0, none⟩), .slice x.a x.len x.cap] W (SrvPost O W bs s raw) := by
  obtain ⟨CS, ip, ia, iN, ic, h⟩ := h
  obtain ⟨Q, hQ⟩ : ∃ Q, Q = SrvPost O W bs s raw := ⟨_, rfl⟩
  rw [← hQ]
  have HQ := hid_of hQ
  have HM := hid_of h
  have HLOW := hid_of hlow
  have HFREE := hid_of hfree
  have HI := hid_of hI
  have HX := hid_of hX
  have hbs := h.cell
  have hfs := h.fre
  have csl := h.c.len
  have hgl := h.gl
  obtain ⟨xa, hxa⟩ : ∃ xa, xa = x.a := ⟨_, rfl⟩
  obtain ⟨xn, hxn⟩ : ∃ xn, xn = x.len := ⟨_, rfl⟩
  obtain ⟨xc, hxc⟩ : ∃ xc, xc = x.cap := ⟨_, rfl⟩
  rw [← hxa, ← hxn, ← hxc]
  have HDEC : Hid (∀ C V, (put W bs C).Extends V → Calls Tryz.prog 49 #[.slice xa xn xc] V (DecPost V (decF raw))) := fun C V hs => by
    rw [hxa, hxn, hxc]
    exact dec_both 49 (.inl rfl) V x raw (HX.out C V hs)
  have l2 : 2 + 2 ≤ CS.length := by omega
  obtain ⟨C1, hC1⟩ : ∃ C1, C1 = splice CS 2 Trace.zero.enc := ⟨_, rfl⟩
  have hsp : splice CS 2 Trace.zero.enc = C1 := hC1.symm
  have tl : (Trace.zero.enc).length = 2 := rfl
  have hn1 : ∀ k, nth C1 k = if 2 ≤ k ∧ k < 4 then some (.int .i64 0) else nth CS k := fun k => by
    rw [hC1, splice_nth2 (by rw [tl]; exact l2), tl]
    by_cases e : 2 ≤ k ∧ k < 4
    · rw [if_pos e, if_pos (by omega)]
      rcases (show k = 2 ∨ k = 3 from by omega) with e | e <;> (subst e; rfl)
    · rw [if_neg e, if_neg (by omega)]
  have hS1 : SvM O (put W bs C1) bs g s.clr C1 ip ia iN ic := by
    refine h.num ((Fr.refl _ _ _).put (L := fun l => l = .a 0 0) h.own _) (by rw [blk_put, if_pos rfl, hbs]; rfl) (by rw [free_put]; exact hfs) (by rw [hC1, length_splice _ _ _ (by rw [tl]; exact l2)]; exact csl) (fun k hk => by rw [hn1, if_neg (by omega)]) (by rw [hn1, if_pos (by omega)]) (by rw [hn1, if_pos (by omega)]) (fun k h1 h2 => by rw [hn1, if_neg (by omega)]; exact h.c.rs k h1 h2)
  have HS1 := hid_of hS1
  have HF1 : Hid (Fr (fun l => l = .a 0 0) O W O (put W bs C1)) := (Fr.refl _ _ _).put (L := fun l => l = .a 0 0) h.own _
  clear hQ hlow hfree hI hX h hn1 hS1 hxa hxn hxc hC1
  go_enter Tryz.func17, Tryz.ntmps17
  go_upto_region 3 with fail
  refine wp_world (fun V => (put W bs C1).Extends V ∧ blk V W.heap.size = some Reply.zero.enc ∧ free V W.heap.size = true ∧ V.heap.size = W.heap.size + 1) ⟨?_, ?_, ?_, ?_⟩ ?_
  · exact extends_alloc (ext_Ext (Ext.refl _)) _
  · rw [blk_alloc, if_pos (by rw [size_put])]; try rfl
  · rw [free_alloc, if_pos (by rw [size_put])]
  · rw [World.size_alloc, size_put]
  rintro W1 ⟨hx1, hb5, hf5, hsz1⟩
  try simp only [size_put]
  obtain ⟨b5, e5⟩ : ∃ b5, b5 = W.heap.size := ⟨_, rfl⟩
  rw [← e5] at hb5 hf5 ⊢
  obtain ⟨O1, hO1⟩ : ∃ O1, O1 = lab O W.heap.size (.a 5 98) := ⟨_, rfl⟩
  have hF2 : Fr (fun _ => False) O (put W bs C1) O1 W1 := by rw [hO1]; exact ⟨hx1.os, hx1.tape, hx1.output, hx1.size, fun k hk => lab_lt (by rw [size_put] at hk; exact hk), fun k hk _ => hx1.block k hk⟩
  have HF2 := hid_of hF2
  have HS2 := hid_of (HS1.out.frF hF2)
  have ho5 : O1 b5 = .a 5 98 := by rw [hO1, e5]; exact lab_ge (Nat.le_refl _)
  have HLO1 : Hid (Low O1) := fun k' i j e => by
    rw [hO1] at e
    by_cases hk : k' < W.heap.size
    · rw [lab_lt hk] at e; exact HLOW.out k' i j e
    · rw [lab_ge (by omega)] at e
      have := (Lab.a.inj e).1
      omega
  have HFR1 : Hid (∀ k, ¬ isI (1 - g) (O1 k) ∧ O1 k ≠ .a 0 8) := fun k' => by
    rw [hO1]
    by_cases hk : k' < W.heap.size
    · rw [lab_lt hk]; exact HFREE.out k'
    · rw [lab_ge (by omega)]; exact ⟨isI_5 (by omega), fun e => by cases e⟩
  have hdec := HDEC.out _ W1 hx1
  have HB5 : Hid (blk W1 b5 = some Reply.zero.enc ∧ free W1 b5 = true ∧ O1 b5 = .a 5 98 ∧ W.heap.size ≤ b5) := ⟨hb5, hf5, ho5, by omega⟩
  obtain ⟨dc, hdc⟩ : ∃ dc, dc = (decF raw).1 := ⟨_, rfl⟩
  have HDC := hid_of hdc
  clear hx1 hsz1 e5 hO1 hF2 ho5 hbs hfs csl hdc hb5 hf5 l2 hsp tl HDEC
  go_wp2_with fail
  refine hdec.mono ?_
  rintro e V3 ⟨k, ba, bn, bc, qa, qn, qc, p, sa, sn, sc, rfl, hRq, hx3⟩
  dsimp only
  rw [← HDC.out]
  clear hdec
  go_upto_region 4 with fail
  refine wp_world (fun V => V3.Extends V ∧ blk V V3.heap.size = some (reqE k ba bn bc qa qn qc p sa sn sc) ∧ V.heap.size = V3.heap.size + 1) ⟨extends_alloc (ext_Ext (Ext.refl _)) _, ?_, ?_⟩ ?_
  · rw [blk_alloc, if_pos rfl]
  · rw [World.size_alloc]
  rintro V4 ⟨hx4, hb6, hsz4⟩
  obtain ⟨b6, e6⟩ : ∃ b6, b6 = V3.heap.size := ⟨_, rfl⟩
  rw [← e6] at hb6 ⊢
  have hx14 : W1.Extends V4 := hx3.trans hx4
  have hF4 : Fr (fun _ => False) O1 W1 (lab O1 W1.heap.size .no) V4 := Fr.grow hx14
  obtain ⟨O4, hO4⟩ : ∃ O4, O4 = lab O1 W1.heap.size .no := ⟨_, rfl⟩
  rw [← hO4] at hF4
  have HS4 := hid_of (HS2.out.frF hF4)
  have HLO4 : Hid (Low O4) := fun k' i j e => by
    rw [hO4] at e
    by_cases hk : k' < W1.heap.size
    · rw [lab_lt hk] at e; exact HLO1.out k' i j e
    · rw [lab_ge (by omega)] at e; cases e
  have HFR4 : Hid (∀ k, ¬ isI (1 - g) (O4 k) ∧ O4 k ≠ .a 0 8) := by rw [hO4]; exact lab_free HFR1.out
  have HRQ : Hid (RqC (core O4 V4) k ba bn bc qa qn p sa sn (decF raw).2) := reqOk_c (hRq.grow hx4) (fun b hb => by rw [hO4]; exact lab_ge hb)
  have HK4 : Hid (Kp O W O4 V4) := (Kp.fr HF1.out (fun l hl e => kept_0 hl e)).trans ((Kp.fr HF2.out (fun _ _ e => e)).trans (Kp.fr hF4 (fun _ _ e => e)))
  have hb5 : blk V4 b5 = some Reply.zero.enc := hF4.blk HB5.out.1 (fun e => e)
  have hf5 : free V4 b5 = true := hF4.free HB5.out.1 HB5.out.2.1 (fun e => e)
  have ho5 : O4 b5 = .a 5 98 := (hF4.keep b5 (blk_lt HB5.out.1)).trans HB5.out.2.2.1
  have HB54 : Hid (blk V4 b5 = some Reply.zero.enc ∧ free V4 b5 = true ∧ O4 b5 = .a 5 98 ∧ W.heap.size ≤ b5) := ⟨hb5, hf5, ho5, HB5.out.2.2.2⟩
  obtain ⟨RQ, hRQ⟩ : ∃ RQ, RQ = reqE k ba bn bc qa qn qc p sa sn sc := ⟨_, rfl⟩
  have sgR : seg RQ 0 5 = RQ := by rw [hRQ]; rfl
  have lR : 0 + 5 ≤ RQ.length := by rw [hRQ]; exact Nat.le_refl _
  rw [← hRQ] at hb6
  have HRQE := hid_of hRQ
  clear hx3 hx4 hsz4 e6 hx14 hF4 hO4 hRq hRQ HS2 HF1 HF2 HFR1 HLO1 HB5 HM HFREE ho5
  by_cases hd0 : dc = 0
  rotate_left 1
  · have hdb : (dc != 0) = true := by simp [hd0]
    have hrf := refuse_any V4 0 dc
    obtain ⟨rep, hrep⟩ : ∃ rep, rep = repZ dc 0 (-1) := ⟨_, rfl⟩
    rw [← hrep] at hrf
    have rl := Reply.length_enc rep
    have ro := Reply.ok_enc rep
    have rs := Reply.all_set Reply.zero rep
    obtain ⟨RE, hRE⟩ : ∃ RE, RE = Reply.enc rep := ⟨_, rfl⟩
    rw [← hRE] at hrf rl ro rs
    have HRE := hid_of hRE
    clear hRE hb6
    go_wp2_with fail
    refine hrf.mono ?_
    rintro e Vr ⟨rfl, hxr⟩
    dsimp only
    have hb5r : blk Vr b5 = some Reply.zero.enc := (hxr.blk (blk_lt HB54.out.1)).trans HB54.out.1
    have hf5r : free Vr b5 = true := (free_of_heap (hxr.block b5 (blk_lt HB54.out.1))).trans HB54.out.2.1
    have hFr : Fr (fun _ => False) O4 V4 (lab O4 V4.heap.size .no) Vr := Fr.grow hxr
    have HST : Hid (∃ q s1 O' g', blk (put Vr b5 RE) b5 = some RE ∧ O' b5 = .a 5 98 ∧ (((decF raw).1 ≠ 0 ∧ q = prZ (decF raw).1 0 (-1) ∧ s1 = s.clr) ∨ ((decF raw).1 = 0 ∧ dsR s.clr (decF raw).2 q s1)) ∧ Kp O W O' (put Vr b5 RE) ∧ SvAt O' (put Vr b5 RE) bs g' s1 ∧ (∀ k, ¬ isI (1 - g') (O' k) ∧ O' k ≠ .a 0 8) ∧ Low O' ∧ RepC (core O' (put Vr b5 RE)) rep q) := by
      have ho : lab O4 V4.heap.size .no b5 = .a 5 98 := by rw [lab_lt (blk_lt HB54.out.1)]; exact HB54.out.2.2.1
      have hFp : Fr (fun l => l = .a 5 98) (lab O4 V4.heap.size .no) Vr (lab O4 V4.heap.size .no) (put Vr b5 RE) := (Fr.refl _ _ _).put (L := fun l => l = .a 5 98) ho _
      refine ⟨prZ dc 0 (-1), s.clr, lab O4 V4.heap.size .no, g, by rw [blk_put, if_pos rfl, hb5r]; rfl, ho, .inl ⟨by rw [← HDC.out]; exact hd0, by rw [← HDC.out], rfl⟩, (HK4.out.trans (Kp.fr hFr (fun _ _ e => e))).put_new HB54.out.2.2.2 _, ⟨_, _, _, _, _, (HS4.out.frF hFr).fr5 (fun l e => ⟨98, e⟩) hFp⟩, lab_free HFR4.out, fun k' i j e => ?_, by rw [hrep]; exact (bare_Z _ _ _).c _⟩
      by_cases hk : k' < V4.heap.size
      · rw [lab_lt hk] at e; exact HLO4.out k' i j e
      · rw [lab_ge (by omega)] at e; cases e
    clear hrf hxr hFr HS4 HFR4 HLO4 HRQ HK4 HB54
    go_upto_region 7 with fail
    refine wp_world (fun V => ∃ q s1 O' g', blk V b5 = some RE ∧ O' b5 = .a 5 98 ∧ (((decF raw).1 ≠ 0 ∧ q = prZ (decF raw).1 0 (-1) ∧ s1 = s.clr) ∨ ((decF raw).1 = 0 ∧ dsR s.clr (decF raw).2 q s1)) ∧ Kp O W O' V ∧ SvAt O' V bs g' s1 ∧ (∀ k, ¬ isI (1 - g') (O' k) ∧ O' k ≠ .a 0 8) ∧ Low O' ∧ RepC (core O' V) rep q) HST.out ?_
    clear HST hb5r hf5r hrep hb5 hf5
    rintro V5 ⟨q, s1, O5, g5, hk5, ho5, hsr, hK5, ⟨CS5, ip5, ia5, iN5, ic5, hS5⟩, hfr5, hlw5, hRc5⟩
    have hqk := svR.k (s := s) (s' := s1) (fun t ht => HI.out.ins t ht) hrl hsr
    have hrsb : ∀ k, 0 ≤ s1.rst k ∧ s1.rst k ≤ m + 1 := by
      rcases hsr with ⟨-, -, e⟩ | ⟨-, h9⟩
      · intro k'
        rw [e]
        have := HI.out.rst k'
        show 0 ≤ s.rst k' ∧ s.rst k' ≤ m + 1
        omega
      · exact h9.rsu.bd (fun k' => HI.out.rst k')
    obtain ⟨kd, hkd⟩ : ∃ kd : Nat, q.kind = (kd : Int) := ⟨q.kind.toNat, by have := hqk.1; omega⟩
    obtain ⟨cd, hcd⟩ : ∃ cd : Nat, q.code = (cd : Int) := ⟨q.code.toNat, by have := hqk.2.1; omega⟩
    have hkd8 : kd < 8 := by have := hqk.1; omega
    have hcd43 : cd < 43 := by have := hqk.2.1; omega
    have hct := count_any (W := V5.drew) (bs := bs) (CS := CS5) hS5.cell hS5.fre (r := s1.rst) ⟨hS5.c.len, fun k h1 h2 => hS5.c.rs k (by omega) h2, fun _ _ => rfl⟩ (fun k => by have := hrsb k; omega) rep kd cd (by rw [hRc5.kind]; exact hkd) (by rw [hRc5.code]; exact hcd) hkd8 hcd43
    have n5s : b5 ≠ bs := fun e => by
      have h9 := hS5.own
      rw [← e, ho5] at h9
      cases h9
    have sgE : seg RE 0 11 = RE := seg_all _ _ rl
    have re0 : nth RE 0 = some (.int .i64 (cd : Int)) := by
      rw [HRE.out]
      show some (Value.int .i64 rep.code) = _
      rw [hRc5.code, hcd]
    have re1 : nth RE 1 = some (.int .i64 (kd : Int)) := by
      rw [HRE.out]
      show some (Value.int .i64 rep.kind) = _
      rw [hRc5.kind, hkd]
    have rl0 : 0 < RE.length := by omega
    have rl1 : 1 < RE.length := by omega
    have rlx : 0 + 11 ≤ RE.length := by omega
    have hSd : blk V5.drew b5 = some RE := hk5
    rw [← HRE.out] at hct
    have HS5 := hid_of hS5
    have HSR := hid_of hsr
    have HQK := hid_of hqk
    have HRB := hid_of hrsb
    have HKC : Hid (q.kind = (kd : Int) ∧ q.code = (cd : Int)) := ⟨hkd, hcd⟩
    have HPK : Hid ((blk V5 b5 = some RE ∧ O5 b5 = .a 5 98) ∧ Kp O W O5 V5 ∧ (∀ k, ¬ isI (1 - g5) (O5 k) ∧ O5 k ≠ .a 0 8) ∧ Low O5 ∧ RepC (core O5 V5) rep q) := ⟨⟨hk5, ho5⟩, hK5, hfr5, hlw5, hRc5⟩
    clear hk5 ho5 hsr hK5 hS5 hfr5 hlw5 hRc5 hqk hrsb hkd hcd
    refine wp_region_held_drew (S := fun W' => blk W' b5 = some RE) (by kernel_rfl) hSd (fun hHeld => ?_)
    refine wpAnyH_take (i := 0) (oi := ⟨_, _, _, _, _, _⟩) (v := ?_) rfl (by kernel_rfl) (by kernel_rfl) (by kernel_rfl) (fun _ _ _ h => h) (Or.inl ⟨by rfl, ?_⟩) (by assumption) ?_
    rotate_left 1
    · intro W' hSw
      go_simp
      try with_reducible rfl
    try simp only [Act.put, List.setIfInBounds_toArray, List.set_cons_zero, List.set_cons_succ]
    refine wpAnyH_take (i := 1) (oi := ⟨_, _, _, _, _, _⟩) (v := ?_) rfl (by kernel_rfl) (by kernel_rfl) (by kernel_rfl) (fun _ _ _ h => h) (Or.inl ⟨by rfl, ?_⟩) (by assumption) ?_
    rotate_left 1
    · intro W' hSw
      go_simp
      try with_reducible rfl
    try simp only [Act.put, List.setIfInBounds_toArray, List.set_cons_zero, List.set_cons_succ]
    refine wpAnyH_take (i := 2) (oi := ⟨_, _, _, _, _, _⟩) (v := ?_) rfl (by kernel_rfl) (by kernel_rfl) (by kernel_rfl) (fun _ _ _ h => h) (Or.inl ⟨by rfl, ?_⟩) (by assumption) ?_
    rotate_left 1
    · intro W' hSw
      go_simp
      try with_reducible rfl
    try simp only [Act.put, List.setIfInBounds_toArray, List.set_cons_zero, List.set_cons_succ]
    refine wpAnyH_take (i := 3) (oi := ⟨_, _, _, _, _, _⟩) (v := ?_) rfl (by kernel_rfl) (by kernel_rfl) (by kernel_rfl) (fun _ _ _ h => h) (Or.inl ⟨by rfl, ?_⟩) (by assumption) ?_
    rotate_left 1
    · intro W' hSw
      go_simp
      try with_reducible rfl
    try simp only [Act.put, List.setIfInBounds_toArray, List.set_cons_zero, List.set_cons_succ]
    refine wpAnyH_ready (rs := [4]) (by kernel_rfl) (by simp) ?_
    refine AllReadyH.cons (o := ⟨_, _, _, _, _, _⟩) rfl (fun K' hK => ?_) AllReadyH.nil
    go_simp
    refine hct.mono ?_
    rintro en V6 ⟨rfl, C6, hOn6, hCe6⟩
    dsimp only
    have hb56 : blk V6 b5 = some RE := (blk_of_heap (hOn6.heap b5 (blk_lt hSd) n5s)).trans hSd
    refine hK.out _ _ hb56 (fun hHeld => ?_)
    clear hK K'
    try simp only [Act.put, List.setIfInBounds_toArray, List.set_cons_zero, List.set_cons_succ]
    refine wpAnyH_done (by kernel_rfl) ?_ _
    have hF6 : Fr (fun l => l = .a 0 0) O5 V5 O5 V6 := (Fr.of_extends (L := fun l => l = .a 0 0) (extd V5)).trans (onG_fr hOn6 HS5.out.own)
    obtain ⟨r6, hr6⟩ : ∃ r6, r6 = cntF s1.rst kd cd := ⟨_, rfl⟩
    rw [← hr6] at hCe6
    have hS6 : SvM O5 V6 bs g5 ⟨s1.inst, s1.img, s1.op, s1.calls, r6⟩ C6 ip5 ia5 iN5 ic5 := by
      refine HS5.out.num hF6 hOn6.blk hOn6.free hCe6.len (fun k hk => hCe6.old k (by omega)) ((hCe6.old 2 (by omega)).trans HS5.out.c.c2) ((hCe6.old 3 (by omega)).trans HS5.out.c.c3) (fun k h1 h2 => ?_)
      by_cases e : k < 197
      · rw [hCe6.old k e, hr6, cntF_lo _ _ _ e]; exact HS5.out.c.rs k h1 h2
      · exact hCe6.num k (by omega) h2
    have hrb6 : ∀ k, 0 ≤ r6 k ∧ r6 k ≤ m + 1 + 4 := by rw [hr6]; exact cntF_bd HRB.out kd cd
    obtain ⟨sn, hsn⟩ : ∃ sn : Nat, r6 196 = (sn : Int) := ⟨(r6 196).toNat, by have := hrb6 196; omega⟩
    have hsnb : sn ≤ 1000000000 := by have := hrb6 196; omega
    have hta := trailAdd_any (W := V6.drew) hS6.cell hS6.fre hS6.c.len (sn := sn) ((hS6.c.rs 196 (by omega) (by omega)).trans (by show some (Value.int .i64 (r6 196)) = _; rw [hsn])) hsnb (kd : Int) (cd : Int)
    have HS6 := hid_of hS6
    have HF6 := hid_of hF6
    have HSN := hid_of hsn
    have HRR6 := hid_of hr6
    have HRB6 := hid_of hrb6
    have hSd6 : blk V6.drew b5 = some RE := hb56
    clear hct hOn6 hCe6 hF6 hS6 hrb6 hsn hr6 hSd
    go_upto_region 8 with fail
    refine wp_region_held_drew (S := fun W' => blk W' b5 = some RE) (by kernel_rfl) hSd6 (fun hHeld => ?_)
    refine wpAnyH_take (i := 0) (oi := ⟨_, _, _, _, _, _⟩) (v := ?_) rfl (by kernel_rfl) (by kernel_rfl) (by kernel_rfl) (fun _ _ _ h => h) (Or.inl ⟨by rfl, ?_⟩) (by assumption) ?_
    rotate_left 1
    · intro W' hSw
      go_simp
      try with_reducible rfl
    try simp only [Act.put, List.setIfInBounds_toArray, List.set_cons_zero, List.set_cons_succ]
    refine wpAnyH_take (i := 1) (oi := ⟨_, _, _, _, _, _⟩) (v := ?_) rfl (by kernel_rfl) (by kernel_rfl) (by kernel_rfl) (fun _ _ _ h => h) (Or.inl ⟨by rfl, ?_⟩) (by assumption) ?_
    rotate_left 1
    · intro W' hSw
      go_simp
      try with_reducible rfl
    try simp only [Act.put, List.setIfInBounds_toArray, List.set_cons_zero, List.set_cons_succ]
    refine wpAnyH_take (i := 2) (oi := ⟨_, _, _, _, _, _⟩) (v := ?_) rfl (by kernel_rfl) (by kernel_rfl) (by kernel_rfl) (fun _ _ _ h => h) (Or.inl ⟨by rfl, ?_⟩) (by assumption) ?_
    rotate_left 1
    · intro W' hSw
      go_simp
      try with_reducible rfl
    try simp only [Act.put, List.setIfInBounds_toArray, List.set_cons_zero, List.set_cons_succ]
    refine wpAnyH_take (i := 3) (oi := ⟨_, _, _, _, _, _⟩) (v := ?_) rfl (by kernel_rfl) (by kernel_rfl) (by kernel_rfl) (fun _ _ _ h => h) (Or.inl ⟨by rfl, ?_⟩) (by assumption) ?_
    rotate_left 1
    · intro W' hSw
      go_simp
      try with_reducible rfl
    try simp only [Act.put, List.setIfInBounds_toArray, List.set_cons_zero, List.set_cons_succ]
    refine wpAnyH_take (i := 4) (oi := ⟨_, _, _, _, _, _⟩) (v := ?_) rfl (by kernel_rfl) (by kernel_rfl) (by kernel_rfl) (fun _ _ _ h => h) (Or.inl ⟨by rfl, ?_⟩) (by assumption) ?_
    rotate_left 1
    · intro W' hSw
      go_simp
      try with_reducible rfl
    try simp only [Act.put, List.setIfInBounds_toArray, List.set_cons_zero, List.set_cons_succ]
    refine wpAnyH_take (i := 5) (oi := ⟨_, _, _, _, _, _⟩) (v := ?_) rfl (by kernel_rfl) (by kernel_rfl) (by kernel_rfl) (fun _ _ _ h => h) (Or.inl ⟨by rfl, ?_⟩) (by assumption) ?_
    rotate_left 1
    · intro W' hSw
      go_simp
      try with_reducible rfl
    try simp only [Act.put, List.setIfInBounds_toArray, List.set_cons_zero, List.set_cons_succ]
    refine wpAnyH_take (i := 6) (oi := ⟨_, _, _, _, _, _⟩) (v := ?_) rfl (by kernel_rfl) (by kernel_rfl) (by kernel_rfl) (fun _ _ _ h => h) (Or.inl ⟨by rfl, ?_⟩) (by assumption) ?_
    rotate_left 1
    · intro W' hSw
      go_simp
      try with_reducible rfl
    try simp only [Act.put, List.setIfInBounds_toArray, List.set_cons_zero, List.set_cons_succ]
    refine wpAnyH_ready (rs := [7]) (by kernel_rfl) (by simp) ?_
    refine AllReadyH.cons (o := ⟨_, _, _, _, _, _⟩) rfl (fun K' hK => ?_) AllReadyH.nil
    go_simp
    refine hta.mono ?_
    rintro en V7 ⟨rfl, hOn7⟩
    dsimp only
    have hb57 : blk V7 b5 = some RE := (blk_of_heap (hOn7.heap b5 n5s)).trans hSd6
    refine hK.out _ _ hb57 (fun hHeld => ?_)
    clear hK K'
    try simp only [Act.put, List.setIfInBounds_toArray, List.set_cons_zero, List.set_cons_succ]
    refine wpAnyH_done (by kernel_rfl) ?_ _
    have hF7 : Fr (fun l => l = .a 0 0) O5 V6 O5 V7 := (Fr.of_extends (L := fun l => l = .a 0 0) (extd V6)).trans (hOn7.fr (L := fun l => l = .a 0 0) HS6.out.own)
    have hcl6 := HS6.out.c.len
    have gl : (GEntry.enc ⟨(sn : Int) + 1, (kd : Int), (cd : Int)⟩).length = 3 := rfl
    have hlr : 4 + sn % 64 * 3 + 3 ≤ 196 := by omega
    have hS7 : SvM O5 V7 bs g5 (s1.fil q.kind q.code) (splice (splice C6 (4 + sn % 64 * 3) (GEntry.enc ⟨(sn : Int) + 1, (kd : Int), (cd : Int)⟩)) 196 [.int .i64 ((sn : Int) + 1)]) ip5 ia5 iN5 ic5 := by
      have hl1 : (splice C6 (4 + sn % 64 * 3) (GEntry.enc ⟨(sn : Int) + 1, (kd : Int), (cd : Int)⟩)).length = 253 := (length_splice _ _ _ (by rw [gl]; omega)).trans hcl6
      have hn7 : ∀ k, nth (splice (splice C6 (4 + sn % 64 * 3) (GEntry.enc ⟨(sn : Int) + 1, (kd : Int), (cd : Int)⟩)) 196 [.int .i64 ((sn : Int) + 1)]) k = if k = 196 then some (.int .i64 ((sn : Int) + 1)) else if 4 + sn % 64 * 3 ≤ k ∧ k < 4 + sn % 64 * 3 + 3 then nth (GEntry.enc ⟨(sn : Int) + 1, (kd : Int), (cd : Int)⟩) (k - (4 + sn % 64 * 3)) else nth C6 k := fun k => by
        rw [splice_nth (by omega), splice_nth2 (by rw [gl]; omega), gl]
      refine HS6.out.num hF7 hOn7.blk hOn7.free (by rw [length_splice1 (by omega)]; exact hl1) (fun k hk => by rw [hn7, if_neg (by omega), if_neg (by omega)]) (by rw [hn7, if_neg (by omega), if_neg (by omega)]; exact HS6.out.c.c2) (by rw [hn7, if_neg (by omega), if_neg (by omega)]; exact HS6.out.c.c3) (fun k h1 h2 => ?_)
      rw [hn7]
      show _ = some (Value.int .i64 (filR s1.rst q.kind q.code k))
      unfold filR
      rw [HKC.out.1, HKC.out.2, Int.toNat_natCast, Int.toNat_natCast, ← HRR6.out]
      unfold trF
      rw [HSN.out, Int.toNat_natCast]
      by_cases e1 : k = 196
      · rw [if_pos e1, if_pos e1]
      · rw [if_neg e1, if_neg e1]
        by_cases e2 : 4 + sn % 64 * 3 ≤ k ∧ k < 4 + sn % 64 * 3 + 3
        · rw [if_pos e2, GEntry_nth _ _ (by omega)]
          by_cases e3 : k = 4 + sn % 64 * 3
          · rw [if_pos e3, if_pos (by omega)]
          · rw [if_neg e3, if_neg (by omega)]
            by_cases e4 : k = 4 + sn % 64 * 3 + 1
            · rw [if_pos e4, if_pos (by omega)]
            · rw [if_neg e4, if_neg (by omega), if_pos (by omega)]
        · rw [if_neg e2, if_neg (by omega), if_neg (by omega), if_neg (by omega)]
          exact HS6.out.c.rs k h1 h2
    have hF57 : Fr (fun l => l = .a 0 0) O5 V5 O5 V7 := HF6.out.trans hF7
    have hRc7 : RepC (core O5 V7) rep q := HPK.out.2.2.2.2.sub (Sub.ext (core_fr hF57 (fun e => by cases e)))
    have hen := encodeReply_any V7 rep q (hRc7.sub (Sub.core _ _)) HQK.out.2.2
    rw [← HRE.out] at hen
    have HS7 := hid_of hS7
    have HK7 : Hid (Kp O W O5 V7) := HPK.out.2.1.trans (Kp.fr hF57 (fun l hl e => kept_0 hl e))
    clear hta hOn7 hF7 hS7 hF57 hRc7 gl hlr hcl6 hSd6 hb56 HS6 HF6
    go_wp2_with fail
    refine hen.mono ?_
    rintro e V8 ⟨ra, rn, rc, rfl, ho8⟩
    have HP : Hid (Q (.returned (.slice ra rn rc)) V8) := by
      show Q _ _
      rw [HQ.out]
      have hF8 : Fr (fun _ => False) O5 V7 (lab O5 V7.heap.size .no) V8 := Fr.grow ho8.2.1
      obtain ⟨y1, y2, y3⟩ := bs_own ho8.1
      refine ⟨ra, rn, rc, q, _, lab O5 V7.heap.size .no, g5, rfl, ⟨s1, HSR.out, rfl⟩, HQK.out.2.2, HK7.out.trans (Kp.fr hF8 (fun _ _ e => e)), ⟨_, _, _, _, _, HS7.out.frF hF8⟩, lab_free HPK.out.2.2.1, fun k' i j e => ?_, ⟨y1.1, fun h0 => ?_, y1.2.2⟩, y2, y3⟩
      · by_cases hk : k' < V7.heap.size
        · rw [lab_lt hk] at e; exact HPK.out.2.2.2.1 k' i j e
        · rw [lab_ge (by omega)] at e; cases e
      · obtain ⟨b, o, C, e1, e2, e3, e4⟩ := y1.2.1 h0
        exact ⟨b, o, C, e1, blk_core e2 (lab_ge (row_at ho8.1 b (by rw [e1]; rfl)).1), e3, e4⟩
    clear hen ho8
    dsimp only
    go_wp2_with fail
    try go_ret
    exact HP.out
  subst hd0
  have hdsp := dispatch_any HS4.out HLO4.out (fun t ht => HI.out.ins t ht) (by have := HI.out.rst 252; show 0 ≤ s.rst 252 ∧ s.rst 252 ≤ 1000000000; omega) (by show (0 : Int) ≤ 0 ∧ (0 : Int) ≤ 100; omega) HFR4.out k ba bn bc qa qn qc p sa sn sc (decF raw).2 HRQ.out (decF_wf hrl HDC.out.symm)
  rw [← HRQE.out] at hdsp
  go_wp2_with fail
  refine hdsp.mono ?_
  intro e Vr hG
  have HG := hid_of hG
  obtain ⟨rep, q0, s0, O0, g0, -, rfl, -⟩ := hG
  dsimp only
  have rl := Reply.length_enc rep
  have ro := Reply.ok_enc rep
  have rs := Reply.all_set Reply.zero rep
  have hst : blk Vr b5 = some Reply.zero.enc ∧ free Vr b5 = true ∧ ∃ q s1 O' g', blk (put Vr b5 (Reply.enc rep)) b5 = some (Reply.enc rep) ∧ O' b5 = .a 5 98 ∧ (((decF raw).1 ≠ 0 ∧ q = prZ (decF raw).1 0 (-1) ∧ s1 = s.clr) ∨ ((decF raw).1 = 0 ∧ dsR s.clr (decF raw).2 q s1)) ∧ Kp O W O' (put Vr b5 (Reply.enc rep)) ∧ SvAt O' (put Vr b5 (Reply.enc rep)) bs g' s1 ∧ (∀ k, ¬ isI (1 - g') (O' k) ∧ O' k ≠ .a 0 8) ∧ Low O' ∧ RepC (core O' (put Vr b5 (Reply.enc rep))) rep q := by
    obtain ⟨rep2, q, s1, O', g', hP, he, hK, ⟨CS', ip', ia', iN', ic', hS⟩, hfr, hlw, hRc⟩ := HG.out
    obtain ⟨k1, k2⟩ := hK.keep b5 (blk_lt HB54.out.1) (by rw [HB54.out.2.2.1]; exact .inr ⟨5, 98, rfl, by omega⟩)
    have ho' : O' b5 = .a 5 98 := k1.trans HB54.out.2.2.1
    have hk5 : blk Vr b5 = some Reply.zero.enc := (blk_of_heap k2).trans HB54.out.1
    have hFp : Fr (fun l => l = .a 5 98) O' Vr O' (put Vr b5 (Reply.enc rep)) := (Fr.refl _ _ _).put (L := fun l => l = .a 5 98) ho' _
    have er : rep2 = rep := by
      injection he with e6
      injection e6 with e7
      have e8 : Reply.enc rep = Reply.enc rep2 := congrArg Array.toList e7
      exact (Reply.enc_inj e8).symm
    rw [er] at hRc
    exact ⟨hk5, (free_of_heap k2).trans HB54.out.2.1, q, s1, O', g', by rw [blk_put, if_pos rfl, hk5]; rfl, ho', .inr ⟨HDC.out.symm, hP⟩, (HK4.out.trans hK).put_new HB54.out.2.2.2 _, ⟨_, _, _, _, _, hS.fr5 (fun l e => ⟨98, e⟩) hFp⟩, hfr, hlw, hRc.sub (Sub.ext (core_fr hFp (fun e => by cases e)))⟩
  obtain ⟨hb5r, hf5r, HST⟩ := hst
  replace HST := hid_of HST
  obtain ⟨RE, hRE⟩ : ∃ RE, RE = Reply.enc rep := ⟨_, rfl⟩
  rw [← hRE] at HST rl ro rs ⊢
  have HRE := hid_of hRE
  clear hRE hdsp HG HS4 HFR4 HLO4 HRQ HK4 HB54 hb6
  go_upto_region 7 with fail
  refine wp_world (fun V => ∃ q s1 O' g', blk V b5 = some RE ∧ O' b5 = .a 5 98 ∧ (((decF raw).1 ≠ 0 ∧ q = prZ (decF raw).1 0 (-1) ∧ s1 = s.clr) ∨ ((decF raw).1 = 0 ∧ dsR s.clr (decF raw).2 q s1)) ∧ Kp O W O' V ∧ SvAt O' V bs g' s1 ∧ (∀ k, ¬ isI (1 - g') (O' k) ∧ O' k ≠ .a 0 8) ∧ Low O' ∧ RepC (core O' V) rep q) HST.out ?_
  clear HST hb5r hf5r hb5 hf5
  rintro V5 ⟨q, s1, O5, g5, hk5, ho5, hsr, hK5, ⟨CS5, ip5, ia5, iN5, ic5, hS5⟩, hfr5, hlw5, hRc5⟩
  have hqk := svR.k (s := s) (s' := s1) (fun t ht => HI.out.ins t ht) hrl hsr
  have hrsb : ∀ k, 0 ≤ s1.rst k ∧ s1.rst k ≤ m + 1 := by
    rcases hsr with ⟨-, -, e⟩ | ⟨-, h9⟩
    · intro k'
      rw [e]
      have := HI.out.rst k'
      show 0 ≤ s.rst k' ∧ s.rst k' ≤ m + 1
      omega
    · exact h9.rsu.bd (fun k' => HI.out.rst k')
  obtain ⟨kd, hkd⟩ : ∃ kd : Nat, q.kind = (kd : Int) := ⟨q.kind.toNat, by have := hqk.1; omega⟩
  obtain ⟨cd, hcd⟩ : ∃ cd : Nat, q.code = (cd : Int) := ⟨q.code.toNat, by have := hqk.2.1; omega⟩
  have hkd8 : kd < 8 := by have := hqk.1; omega
  have hcd43 : cd < 43 := by have := hqk.2.1; omega
  have hct := count_any (W := V5.drew) (bs := bs) (CS := CS5) hS5.cell hS5.fre (r := s1.rst) ⟨hS5.c.len, fun k h1 h2 => hS5.c.rs k (by omega) h2, fun _ _ => rfl⟩ (fun k => by have := hrsb k; omega) rep kd cd (by rw [hRc5.kind]; exact hkd) (by rw [hRc5.code]; exact hcd) hkd8 hcd43
  have n5s : b5 ≠ bs := fun e => by
    have h9 := hS5.own
    rw [← e, ho5] at h9
    cases h9
  have sgE : seg RE 0 11 = RE := seg_all _ _ rl
  have re0 : nth RE 0 = some (.int .i64 (cd : Int)) := by
    rw [HRE.out]
    show some (Value.int .i64 rep.code) = _
    rw [hRc5.code, hcd]
  have re1 : nth RE 1 = some (.int .i64 (kd : Int)) := by
    rw [HRE.out]
    show some (Value.int .i64 rep.kind) = _
    rw [hRc5.kind, hkd]
  have rl0 : 0 < RE.length := by omega
  have rl1 : 1 < RE.length := by omega
  have rlx : 0 + 11 ≤ RE.length := by omega
  have hSd : blk V5.drew b5 = some RE := hk5
  rw [← HRE.out] at hct
  have HS5 := hid_of hS5
  have HSR := hid_of hsr
  have HQK := hid_of hqk
  have HRB := hid_of hrsb
  have HKC : Hid (q.kind = (kd : Int) ∧ q.code = (cd : Int)) := ⟨hkd, hcd⟩
  have HPK : Hid ((blk V5 b5 = some RE ∧ O5 b5 = .a 5 98) ∧ Kp O W O5 V5 ∧ (∀ k, ¬ isI (1 - g5) (O5 k) ∧ O5 k ≠ .a 0 8) ∧ Low O5 ∧ RepC (core O5 V5) rep q) := ⟨⟨hk5, ho5⟩, hK5, hfr5, hlw5, hRc5⟩
  clear hk5 ho5 hsr hK5 hS5 hfr5 hlw5 hRc5 hqk hrsb hkd hcd
  refine wp_region_held_drew (S := fun W' => blk W' b5 = some RE) (by kernel_rfl) hSd (fun hHeld => ?_)
  refine wpAnyH_take (i := 0) (oi := ⟨_, _, _, _, _, _⟩) (v := ?_) rfl (by kernel_rfl) (by kernel_rfl) (by kernel_rfl) (fun _ _ _ h => h) (Or.inl ⟨by rfl, ?_⟩) (by assumption) ?_
  rotate_left 1
  · intro W' hSw
    go_simp
    try with_reducible rfl
  try simp only [Act.put, List.setIfInBounds_toArray, List.set_cons_zero, List.set_cons_succ]
  refine wpAnyH_take (i := 1) (oi := ⟨_, _, _, _, _, _⟩) (v := ?_) rfl (by kernel_rfl) (by kernel_rfl) (by kernel_rfl) (fun _ _ _ h => h) (Or.inl ⟨by rfl, ?_⟩) (by assumption) ?_
  rotate_left 1
  · intro W' hSw
    go_simp
    try with_reducible rfl
  try simp only [Act.put, List.setIfInBounds_toArray, List.set_cons_zero, List.set_cons_succ]
  refine wpAnyH_take (i := 2) (oi := ⟨_, _, _, _, _, _⟩) (v := ?_) rfl (by kernel_rfl) (by kernel_rfl) (by kernel_rfl) (fun _ _ _ h => h) (Or.inl ⟨by rfl, ?_⟩) (by assumption) ?_
  rotate_left 1
  · intro W' hSw
    go_simp
    try with_reducible rfl
  try simp only [Act.put, List.setIfInBounds_toArray, List.set_cons_zero, List.set_cons_succ]
  refine wpAnyH_take (i := 3) (oi := ⟨_, _, _, _, _, _⟩) (v := ?_) rfl (by kernel_rfl) (by kernel_rfl) (by kernel_rfl) (fun _ _ _ h => h) (Or.inl ⟨by rfl, ?_⟩) (by assumption) ?_
  rotate_left 1
  · intro W' hSw
    go_simp
    try with_reducible rfl
  try simp only [Act.put, List.setIfInBounds_toArray, List.set_cons_zero, List.set_cons_succ]
  refine wpAnyH_ready (rs := [4]) (by kernel_rfl) (by simp) ?_
  refine AllReadyH.cons (o := ⟨_, _, _, _, _, _⟩) rfl (fun K' hK => ?_) AllReadyH.nil
  go_simp
  refine hct.mono ?_
  rintro en V6 ⟨rfl, C6, hOn6, hCe6⟩
  dsimp only
  have hb56 : blk V6 b5 = some RE := (blk_of_heap (hOn6.heap b5 (blk_lt hSd) n5s)).trans hSd
  refine hK.out _ _ hb56 (fun hHeld => ?_)
  clear hK K'
  try simp only [Act.put, List.setIfInBounds_toArray, List.set_cons_zero, List.set_cons_succ]
  refine wpAnyH_done (by kernel_rfl) ?_ _
  have hF6 : Fr (fun l => l = .a 0 0) O5 V5 O5 V6 := (Fr.of_extends (L := fun l => l = .a 0 0) (extd V5)).trans (onG_fr hOn6 HS5.out.own)
  obtain ⟨r6, hr6⟩ : ∃ r6, r6 = cntF s1.rst kd cd := ⟨_, rfl⟩
  rw [← hr6] at hCe6
  have hS6 : SvM O5 V6 bs g5 ⟨s1.inst, s1.img, s1.op, s1.calls, r6⟩ C6 ip5 ia5 iN5 ic5 := by
    refine HS5.out.num hF6 hOn6.blk hOn6.free hCe6.len (fun k hk => hCe6.old k (by omega)) ((hCe6.old 2 (by omega)).trans HS5.out.c.c2) ((hCe6.old 3 (by omega)).trans HS5.out.c.c3) (fun k h1 h2 => ?_)
    by_cases e : k < 197
    · rw [hCe6.old k e, hr6, cntF_lo _ _ _ e]; exact HS5.out.c.rs k h1 h2
    · exact hCe6.num k (by omega) h2
  have hrb6 : ∀ k, 0 ≤ r6 k ∧ r6 k ≤ m + 1 + 4 := by rw [hr6]; exact cntF_bd HRB.out kd cd
  obtain ⟨sn, hsn⟩ : ∃ sn : Nat, r6 196 = (sn : Int) := ⟨(r6 196).toNat, by have := hrb6 196; omega⟩
  have hsnb : sn ≤ 1000000000 := by have := hrb6 196; omega
  have hta := trailAdd_any (W := V6.drew) hS6.cell hS6.fre hS6.c.len (sn := sn) ((hS6.c.rs 196 (by omega) (by omega)).trans (by show some (Value.int .i64 (r6 196)) = _; rw [hsn])) hsnb (kd : Int) (cd : Int)
  have HS6 := hid_of hS6
  have HF6 := hid_of hF6
  have HSN := hid_of hsn
  have HRR6 := hid_of hr6
  have HRB6 := hid_of hrb6
  have hSd6 : blk V6.drew b5 = some RE := hb56
  clear hct hOn6 hCe6 hF6 hS6 hrb6 hsn hr6 hSd
  go_upto_region 8 with fail
  refine wp_region_held_drew (S := fun W' => blk W' b5 = some RE) (by kernel_rfl) hSd6 (fun hHeld => ?_)
  refine wpAnyH_take (i := 0) (oi := ⟨_, _, _, _, _, _⟩) (v := ?_) rfl (by kernel_rfl) (by kernel_rfl) (by kernel_rfl) (fun _ _ _ h => h) (Or.inl ⟨by rfl, ?_⟩) (by assumption) ?_
  rotate_left 1
  · intro W' hSw
    go_simp
    try with_reducible rfl
  try simp only [Act.put, List.setIfInBounds_toArray, List.set_cons_zero, List.set_cons_succ]
  refine wpAnyH_take (i := 1) (oi := ⟨_, _, _, _, _, _⟩) (v := ?_) rfl (by kernel_rfl) (by kernel_rfl) (by kernel_rfl) (fun _ _ _ h => h) (Or.inl ⟨by rfl, ?_⟩) (by assumption) ?_
  rotate_left 1
  · intro W' hSw
    go_simp
    try with_reducible rfl
  try simp only [Act.put, List.setIfInBounds_toArray, List.set_cons_zero, List.set_cons_succ]
  refine wpAnyH_take (i := 2) (oi := ⟨_, _, _, _, _, _⟩) (v := ?_) rfl (by kernel_rfl) (by kernel_rfl) (by kernel_rfl) (fun _ _ _ h => h) (Or.inl ⟨by rfl, ?_⟩) (by assumption) ?_
  rotate_left 1
  · intro W' hSw
    go_simp
    try with_reducible rfl
  try simp only [Act.put, List.setIfInBounds_toArray, List.set_cons_zero, List.set_cons_succ]
  refine wpAnyH_take (i := 3) (oi := ⟨_, _, _, _, _, _⟩) (v := ?_) rfl (by kernel_rfl) (by kernel_rfl) (by kernel_rfl) (fun _ _ _ h => h) (Or.inl ⟨by rfl, ?_⟩) (by assumption) ?_
  rotate_left 1
  · intro W' hSw
    go_simp
    try with_reducible rfl
  try simp only [Act.put, List.setIfInBounds_toArray, List.set_cons_zero, List.set_cons_succ]
  refine wpAnyH_take (i := 4) (oi := ⟨_, _, _, _, _, _⟩) (v := ?_) rfl (by kernel_rfl) (by kernel_rfl) (by kernel_rfl) (fun _ _ _ h => h) (Or.inl ⟨by rfl, ?_⟩) (by assumption) ?_
  rotate_left 1
  · intro W' hSw
    go_simp
    try with_reducible rfl
  try simp only [Act.put, List.setIfInBounds_toArray, List.set_cons_zero, List.set_cons_succ]
  refine wpAnyH_take (i := 5) (oi := ⟨_, _, _, _, _, _⟩) (v := ?_) rfl (by kernel_rfl) (by kernel_rfl) (by kernel_rfl) (fun _ _ _ h => h) (Or.inl ⟨by rfl, ?_⟩) (by assumption) ?_
  rotate_left 1
  · intro W' hSw
    go_simp
    try with_reducible rfl
  try simp only [Act.put, List.setIfInBounds_toArray, List.set_cons_zero, List.set_cons_succ]
  refine wpAnyH_take (i := 6) (oi := ⟨_, _, _, _, _, _⟩) (v := ?_) rfl (by kernel_rfl) (by kernel_rfl) (by kernel_rfl) (fun _ _ _ h => h) (Or.inl ⟨by rfl, ?_⟩) (by assumption) ?_
  rotate_left 1
  · intro W' hSw
    go_simp
    try with_reducible rfl
  try simp only [Act.put, List.setIfInBounds_toArray, List.set_cons_zero, List.set_cons_succ]
  refine wpAnyH_ready (rs := [7]) (by kernel_rfl) (by simp) ?_
  refine AllReadyH.cons (o := ⟨_, _, _, _, _, _⟩) rfl (fun K' hK => ?_) AllReadyH.nil
  go_simp
  refine hta.mono ?_
  rintro en V7 ⟨rfl, hOn7⟩
  dsimp only
  have hb57 : blk V7 b5 = some RE := (blk_of_heap (hOn7.heap b5 n5s)).trans hSd6
  refine hK.out _ _ hb57 (fun hHeld => ?_)
  clear hK K'
  try simp only [Act.put, List.setIfInBounds_toArray, List.set_cons_zero, List.set_cons_succ]
  refine wpAnyH_done (by kernel_rfl) ?_ _
  have hF7 : Fr (fun l => l = .a 0 0) O5 V6 O5 V7 := (Fr.of_extends (L := fun l => l = .a 0 0) (extd V6)).trans (hOn7.fr (L := fun l => l = .a 0 0) HS6.out.own)
  have hcl6 := HS6.out.c.len
  have gl : (GEntry.enc ⟨(sn : Int) + 1, (kd : Int), (cd : Int)⟩).length = 3 := rfl
  have hlr : 4 + sn % 64 * 3 + 3 ≤ 196 := by omega
  have hS7 : SvM O5 V7 bs g5 (s1.fil q.kind q.code) (splice (splice C6 (4 + sn % 64 * 3) (GEntry.enc ⟨(sn : Int) + 1, (kd : Int), (cd : Int)⟩)) 196 [.int .i64 ((sn : Int) + 1)]) ip5 ia5 iN5 ic5 := by
    have hl1 : (splice C6 (4 + sn % 64 * 3) (GEntry.enc ⟨(sn : Int) + 1, (kd : Int), (cd : Int)⟩)).length = 253 := (length_splice _ _ _ (by rw [gl]; omega)).trans hcl6
    have hn7 : ∀ k, nth (splice (splice C6 (4 + sn % 64 * 3) (GEntry.enc ⟨(sn : Int) + 1, (kd : Int), (cd : Int)⟩)) 196 [.int .i64 ((sn : Int) + 1)]) k = if k = 196 then some (.int .i64 ((sn : Int) + 1)) else if 4 + sn % 64 * 3 ≤ k ∧ k < 4 + sn % 64 * 3 + 3 then nth (GEntry.enc ⟨(sn : Int) + 1, (kd : Int), (cd : Int)⟩) (k - (4 + sn % 64 * 3)) else nth C6 k := fun k => by
      rw [splice_nth (by omega), splice_nth2 (by rw [gl]; omega), gl]
    refine HS6.out.num hF7 hOn7.blk hOn7.free (by rw [length_splice1 (by omega)]; exact hl1) (fun k hk => by rw [hn7, if_neg (by omega), if_neg (by omega)]) (by rw [hn7, if_neg (by omega), if_neg (by omega)]; exact HS6.out.c.c2) (by rw [hn7, if_neg (by omega), if_neg (by omega)]; exact HS6.out.c.c3) (fun k h1 h2 => ?_)
    rw [hn7]
    show _ = some (Value.int .i64 (filR s1.rst q.kind q.code k))
    unfold filR
    rw [HKC.out.1, HKC.out.2, Int.toNat_natCast, Int.toNat_natCast, ← HRR6.out]
    unfold trF
    rw [HSN.out, Int.toNat_natCast]
    by_cases e1 : k = 196
    · rw [if_pos e1, if_pos e1]
    · rw [if_neg e1, if_neg e1]
      by_cases e2 : 4 + sn % 64 * 3 ≤ k ∧ k < 4 + sn % 64 * 3 + 3
      · rw [if_pos e2, GEntry_nth _ _ (by omega)]
        by_cases e3 : k = 4 + sn % 64 * 3
        · rw [if_pos e3, if_pos (by omega)]
        · rw [if_neg e3, if_neg (by omega)]
          by_cases e4 : k = 4 + sn % 64 * 3 + 1
          · rw [if_pos e4, if_pos (by omega)]
          · rw [if_neg e4, if_neg (by omega), if_pos (by omega)]
      · rw [if_neg e2, if_neg (by omega), if_neg (by omega), if_neg (by omega)]
        exact HS6.out.c.rs k h1 h2
  have hF57 : Fr (fun l => l = .a 0 0) O5 V5 O5 V7 := HF6.out.trans hF7
  have hRc7 : RepC (core O5 V7) rep q := HPK.out.2.2.2.2.sub (Sub.ext (core_fr hF57 (fun e => by cases e)))
  have hen := encodeReply_any V7 rep q (hRc7.sub (Sub.core _ _)) HQK.out.2.2
  rw [← HRE.out] at hen
  have HS7 := hid_of hS7
  have HK7 : Hid (Kp O W O5 V7) := HPK.out.2.1.trans (Kp.fr hF57 (fun l hl e => kept_0 hl e))
  clear hta hOn7 hF7 hS7 hF57 hRc7 gl hlr hcl6 hSd6 hb56 HS6 HF6
  go_wp2_with fail
  refine hen.mono ?_
  rintro e V8 ⟨ra, rn, rc, rfl, ho8⟩
  have HP : Hid (Q (.returned (.slice ra rn rc)) V8) := by
    show Q _ _
    rw [HQ.out]
    have hF8 : Fr (fun _ => False) O5 V7 (lab O5 V7.heap.size .no) V8 := Fr.grow ho8.2.1
    obtain ⟨y1, y2, y3⟩ := bs_own ho8.1
    refine ⟨ra, rn, rc, q, _, lab O5 V7.heap.size .no, g5, rfl, ⟨s1, HSR.out, rfl⟩, HQK.out.2.2, HK7.out.trans (Kp.fr hF8 (fun _ _ e => e)), ⟨_, _, _, _, _, HS7.out.frF hF8⟩, lab_free HPK.out.2.2.1, fun k' i j e => ?_, ⟨y1.1, fun h0 => ?_, y1.2.2⟩, y2, y3⟩
    · by_cases hk : k' < V7.heap.size
      · rw [lab_lt hk] at e; exact HPK.out.2.2.2.1 k' i j e
      · rw [lab_ge (by omega)] at e; cases e
    · obtain ⟨b, o, C, e1, e2, e3, e4⟩ := y1.2.1 h0
      exact ⟨b, o, C, e1, blk_core e2 (lab_ge (row_at ho8.1 b (by rw [e1]; rfl)).1), e3, e4⟩
  clear hen ho8
  dsimp only
  go_wp2_with fail
  try go_ret
  exact HP.out
theorem serve_any {O : Own} {W : World} {bs g : Nat} {s : Sv} (h : SvAt O W bs g s) (hlow : Low O) (hfree : ∀ k, ¬ isI (1 - g) (O k) ∧ O k ≠ .a 0 8) {m : Int} (hI : SvI m s) (hm : 1000 ≤ m ∧ m ≤ 900000000) (x : Sl) (raw : List UInt8) (hX : Dec2 (core O W) x raw) (hrl : raw.length ≤ 65536) : Calls Tryz.prog 17 #[.pointer (some ⟨bs, 0, none⟩), .slice x.a x.len x.cap] W (SrvPost O W bs s raw) := by
  have ho := h.choose_spec.choose_spec.choose_spec.choose_spec.choose_spec.own
  refine serve_raw h hlow hfree hI hm x raw (fun C V hx => ?_) hrl
  have h1 : Fr (fun l => l = .a 0 0) O W O (put W bs C) := (Fr.refl _ _ _).put (L := fun l => l = .a 0 0) ho _
  exact (hX.sub ((Sub.ext (core_fr h1 (fun e => by cases e))).trans (Sub.core _ _))).grow hx
end Go.Proofs.Qxb6500787aGreat
