
import Derived.Test.Qxb6500787aGreatUa
import Derived.StillTailTactics
import Derived.Deep.QuietTactic
import Derived.BigQuiet
import Derived.Deep.RegionHeld
import Derived.Deep.CutRange
import Derived.Laws.ResultCell
import Derived.Laws.Rows
import Derived.DeepKeys
import Derived.DataBytes
import Derived.Laws.StructEq
import Derived.Laws.AppendOwn
import Derived.Laws.MakeOwn
import Derived.Lib.AppendStr
set_option linter.unusedSimpArgs false
set_option linter.unusedVariables false
namespace Go.Proofs.Qxb6500787aGreat
open Go.RowKit Go.Blk
attribute [local go_sem ↓] execOp_load execOp_store execOp_alloc
attribute [local go_sem] Tryz.ld26 Tryz.st26 Tryz.ld27 Tryz.st27 Tryz.ld28 Tryz.st28 Tryz.ld3 Tryz.st3 Tryz.ld29 Tryz.st29 Tryz.ld44 Tryz.st44 Tryz.ld4 Tryz.st4 Tryz.ld50 Tryz.st50 Tryz.ld32 Tryz.st32 Tryz.ld49 Tryz.st49 Tryz.ld68 Tryz.st68 Tryz.ld9 Tryz.st9 Tryz.ld40 Tryz.st40 Tryz.ld138 Tryz.st138 Tryz.ld139 Tryz.st139 Tryz.ld146 Tryz.st146 Tryz.ld183 Tryz.st183 Tryz.ld184 Tryz.st184 Tryz.ld192 Tryz.st192 Tryz.ld195 Tryz.st195 Tryz.ld217 Tryz.st217 Tryz.ld159 Tryz.st159 Tryz.ld142 Tryz.st142 Tryz.ld2 Tryz.st2 Tryz.ld5 Tryz.st5 Tryz.ld12 Tryz.st12 Tryz.ld21 Tryz.st21 Tryz.ld22 Tryz.st22 Tryz.ld24 Tryz.st24 Tryz.ld58 Tryz.st58 Tryz.ld97 Tryz.st97 Tryz.ld101 Tryz.st101 Tryz.ld116 Tryz.st116 Tryz.ld121 Tryz.st121 Tryz.ld135 Tryz.st135 Tryz.ld136 Tryz.st136 Tryz.ld143 Tryz.st143 Tryz.ld148 Tryz.st148 Tryz.ld154 Tryz.st154 Tryz.ld173 Tryz.st173 Tryz.ld187 Tryz.st187 Tryz.ld222 Tryz.st222 Tryz.ld241 Tryz.st241 Tryz.ld248 Tryz.st248 Tryz.ld268 Tryz.st268 Tryz.ld272 Tryz.st272 Tryz.ld153 Tryz.st153 Tryz.ld255 Tryz.st255 Tryz.ld256 Tryz.st256 Tryz.ld129 Tryz.st129 Tryz.ld152 Tryz.st152 Tryz.ld31 Tryz.st31 Tryz.ld46 Tryz.st46 Tryz.ld52 Tryz.st52 Tryz.ld54 Tryz.st54 Tryz.ld60 Tryz.st60 Tryz.ld70 Tryz.st70 Tryz.ld74 Tryz.st74 Tryz.ld93 Tryz.st93 Tryz.ld141 Tryz.st141 Tryz.ld151 Tryz.st151 Tryz.ld170 Tryz.st170 Tryz.ld186 Tryz.st186 Tryz.ld189 Tryz.st189 Tryz.ld194 Tryz.st194 Tryz.ld197 Tryz.st197 Tryz.ld219 Tryz.st219 Tryz.ld224 Tryz.st224 Tryz.ld230 Tryz.st230 Tryz.ld235 Tryz.st235 Tryz.ld243 Tryz.st243 Tryz.ld247 Tryz.st247 Tryz.ld252 Tryz.st252 Tryz.ld258 Tryz.st258 Tryz.al153 Tryz.al255 Tryz.al256 Tryz.al129 Tryz.al152 Tryz.al31 Tryz.al46 Tryz.al52 Tryz.al54 Tryz.al60 Tryz.al70 Tryz.al74 Tryz.al93 Tryz.al141 Tryz.al151 Tryz.al170 Tryz.al186 Tryz.al189 Tryz.al194 Tryz.al197 Tryz.al219 Tryz.al224 Tryz.al230 Tryz.al235 Tryz.al243 Tryz.al247 Tryz.al252 Tryz.al258
attribute [local go_sem] Request.length_enc Request.ok_enc Request.all_get Request.all_set Request.kind_get Request.kind_set Request.blob_get Request.blob_set Request.items_get Request.items_set Request.pred_get Request.pred_set Request.slots_get Request.slots_set Trace.length_enc Trace.ok_enc Trace.all_get Trace.all_set Trace.op_get Trace.op_set Trace.calls_get Trace.calls_set Item.length_enc Item.ok_enc Item.all_get Item.all_set Item.del_get Item.del_set Item.pred_get Item.pred_set Item.args_get Item.args_set Reply.length_enc Reply.ok_enc Reply.all_get Reply.all_set Reply.code_get Reply.code_set Reply.kind_get Reply.kind_set Reply.index_get Reply.index_set Reply.yes_get Reply.yes_set Reply.preds_get Reply.preds_set Reply.rules_get Reply.rules_set Reply.arity_get Reply.arity_set Reply.rows_get Reply.rows_set Reply.fact_get Reply.fact_set Reply.fact_del_get Reply.fact_del_set Reply.fact_pred_get Reply.fact_pred_set Reply.fact_args_get Reply.fact_args_set GEntry.length_enc GEntry.ok_enc GEntry.all_get GEntry.all_set GEntry.seq_get GEntry.seq_set GEntry.kind_get GEntry.kind_set GEntry.code_get GEntry.code_set GOp.length_enc GOp.ok_enc GOp.all_get GOp.all_set GOp.kind_get GOp.kind_set GOp.raw_get GOp.raw_set Reader.length_enc Reader.ok_enc Reader.all_get Reader.all_set Reader.buf_get Reader.buf_set Reader.at__get Reader.at__set Slot.length_enc Slot.ok_enc Slot.all_get Slot.all_set Slot.bound_get Slot.bound_set Slot.name_get Slot.name_set Session.length_enc Session.ok_enc Session.all_get Session.all_set Session.svc_get Session.svc_set Session.buf_get Session.buf_set Session.closed_get Session.closed_set GProgram.length_enc GProgram.ok_enc GProgram.all_get GProgram.all_set GProgram.pool_get GProgram.pool_set GProgram.preds_get GProgram.preds_set GProgram.rules_get GProgram.rules_set GProgram.strata_get GProgram.strata_set PredInfo.length_enc PredInfo.ok_enc PredInfo.all_get PredInfo.all_set PredInfo.arity_get PredInfo.arity_set PredInfo.base_get PredInfo.base_set PredInfo.stratum_get PredInfo.stratum_set Change.length_enc Change.ok_enc Change.all_get Change.all_set Change.del_get Change.del_set Change.pred_get Change.pred_set Change.t_get Change.t_set Store.length_enc Store.ok_enc Store.all_get Store.all_set Store.names_get Store.names_set Store.arity_get Store.arity_set Store.rows_get Store.rows_set Src.length_enc Src.ok_enc Src.all_get Src.all_set Src.b_get Src.b_set Src.at__get Src.at__set Atom.length_enc Atom.ok_enc Atom.all_get Atom.all_set Atom.pred_get Atom.pred_set Atom.args_get Atom.args_set GRule.length_enc GRule.ok_enc GRule.all_get GRule.all_set GRule.head_get GRule.head_set GRule.body_get GRule.body_set GRule.head_pred_get GRule.head_pred_set GRule.head_args_get GRule.head_args_set Cert.length_enc Cert.ok_enc Cert.all_get Cert.all_set Cert.names_get Cert.names_set Cert.nodes_get Cert.nodes_set Fact.length_enc Fact.ok_enc Fact.all_get Fact.all_set Fact.pred_get Fact.pred_set Fact.t_get Fact.t_set Literal.length_enc Literal.ok_enc Literal.all_get Literal.all_set Literal.neg_get Literal.neg_set Literal.atom_get Literal.atom_set Literal.atom_pred_get Literal.atom_pred_set Literal.atom_args_get Literal.atom_args_set Engine.length_enc Engine.ok_enc Engine.all_get Engine.all_set Engine.prog_get Engine.prog_set Engine.st_get Engine.st_set SrcCertm.length_enc SrcCertm.ok_enc SrcCertm.all_get SrcCertm.all_set SrcCertm.b_get SrcCertm.b_set SrcCertm.at__get SrcCertm.at__set GNode.length_enc GNode.ok_enc GNode.all_get GNode.all_set GNode.rule_get GNode.rule_set GNode.pred_get GNode.pred_set GNode.vals_get GNode.vals_set GNode.refs_get GNode.refs_set Term.length_enc Term.ok_enc Term.all_get Term.all_set Term.var_get Term.var_set Term.n_get Term.n_set Env.length_enc Env.ok_enc Env.all_get Env.all_set Env.val_get Env.val_set Env.set_get Env.set_set
attribute [local go_sem] size_put size_ext blk_put free_put blk_alloc free_alloc blk_drew free_drew blk_ext free_ext lookOr_some putOr_some segAt_some cellAt_some storeIn_some put_put put_alloc_new length_arr ok_arr_u8 ok_arr_u32 ok_arr_u64 ok_arr_i64 ok_arr_sl cellsV_agg cellsV_int cellsV_bool cellsV_string cellsV_pointer cellsV_slice cellsV_sl ok_int ok_bool ok_string ok_pointer ok_slice ok_sl toList_arr seg_arr set_arr nth_splice nth_splice0 seg_splice seg_splice0 splice_splice splice_splice0 length_splice_if
attribute [local go_sem ↓] execOp_box
attribute [local go_sem] box_run nth_arr_u8 put_arr_u8 blk_drewN free_drewN put_drewN blk_raw free_raw
theorem Bld.ret {w0 : World} {br : Nat} {a : Option Addr} {n c p : Nat} {W : World} {O : Own} {V : World} {b2 : Nat} {C2 : List Value} (h : Bld br W O V) (hR : Rdr w0 br a n c p V) (hs : Sc W O V b2 C2) (C : List Value) : Side (isR br) W (put V b2 C) ∧ Rdr w0 br a n c p (put V b2 C) ∧ Sub (core O V) (newc W.heap.size (put V b2 C)) := by
  have hF := (hs.put C).1
  have h1 := h.step hF (fun e => by have := (Lab.a.inj e).1; omega)
  exact ⟨h1.side, h.rdr hR.2.2.2.1 hR hF (fun e => by have := (Lab.a.inj e).1; omega) (fun e => by have := (Lab.a.inj e).1; omega), fun b C' hb => h1.sub b C' ((Sub.ext (core_fr hF (fun e => by cases e))) b C' hb)⟩
/-- The terms of an atom. -/
def goT : Nat → List Term → List UInt8 → Int × List Term × List UInt8
  | 0, acc, ys => (0, acc, ys)
  | m + 1, acc, ys => if (bitD ys).1 ≠ 0 then ((bitD ys).1, [], []) else match (bitD ys).2.2 with
    | [] => (19, [], [])
    | x :: r => goT m (acc ++ [⟨(bitD ys).2.1, ((x.toNat : Nat) : Int)⟩]) r
theorem goT_bad {m : Nat} {acc : List Term} {ys : List UInt8} (h : (bitD ys).1 ≠ 0) : goT (m + 1) acc ys = ((bitD ys).1, [], []) := by show (if _ then _ else _) = _; rw [if_pos h]
theorem goT_end {m : Nat} {acc : List Term} {ys : List UInt8} (h : (bitD ys).1 = 0) (h2 : (bitD ys).2.2 = []) : goT (m + 1) acc ys = (19, [], []) := by
  show (if _ then _ else _) = _
  rw [if_neg (fun e => e h), h2]
theorem goT_ok {m : Nat} {acc : List Term} {ys : List UInt8} (h : (bitD ys).1 = 0) {x : UInt8} {r : List UInt8} (h2 : (bitD ys).2.2 = x :: r) : goT (m + 1) acc ys = goT m (acc ++ [⟨(bitD ys).2.1, ((x.toNat : Nat) : Int)⟩]) r := by
  show (if _ then _ else _) = _
  rw [if_neg (fun e => e h), h2]
def atomD : List UInt8 → Int × PA × List UInt8
  | p :: k :: r => ((goT k.toNat [] r).1, ⟨p.toNat, (goT k.toNat [] r).2.1⟩, (goT k.toNat [] r).2.2)
  | _ => (19, ⟨0, []⟩, [])
theorem atomD_cons (p k : UInt8) (r : List UInt8) : atomD (p :: k :: r) = ((goT k.toNat [] r).1, ⟨p.toNat, (goT k.toNat [] r).2.1⟩, (goT k.toNat [] r).2.2) := rfl
def AtPost (w0 : World) (br : Nat) (a : Option Addr) (n c : Nat) (xs : List UInt8) (W : World) (q : Int × PA × List UInt8) (e : Ending) (W' : World) : Prop := ∃ x : Atom, e = .returned (.tuple #[.agg x.enc.toArray, .int .i64 q.1]) ∧ (q.1 = 0 → AtomC (newc W.heap.size W') x q.2.1) ∧ RPost w0 br a n c xs W q.1 q.2.2 W'
theorem build252 (w : World) (b : Bool) (n : Int) : (buildOp 226 #[(0, .bool b), (1, .int .i64 n)]).run Tryz.prog w = .ok (.value (.agg (Term.enc ⟨b, n⟩).toArray)) w := by kernel_rfl
theorem bslice192 (w : World) (x : Term) : (bsliceOp 142 1 #[(0, .agg (Term.enc x).toArray)]).run Tryz.prog w = .ok (.value (.slice (some ⟨w.heap.size, 0, none⟩) 1 1)) (w.alloc (.cells (Term.enc x).toArray 226)) := by
  obtain ⟨b, n⟩ := x
  kernel_rfl
theorem el192 : ElT Term.enc 2 16 142 226 := by
  have info : ∃ i z, Tryz.prog.info? 226 = some i ∧ i.zero = some z ∧ i.size = 2 ∧ i.bytes = 16 ∧ z.cells.size = 2 := by
    have hq : (Tryz.prog.info? 226).map (fun i => (i.zero, i.size, i.bytes)) = some (some (.agg (Term.zero.enc).toArray), 2, 16) := by kernel_rfl
    cases hx : Tryz.prog.info? 226 with
    | none => rw [hx] at hq; simp at hq
    | some i =>
      rw [hx] at hq
      simp only [Option.map_some, Option.some.injEq, Prod.mk.injEq] at hq
      exact ⟨i, _, rfl, hq.1, hq.2.1, hq.2.2, by rfl⟩
  exact ⟨Tryz.underlying142, info, Term.length_enc, Term.one_enc, by omega, by omega⟩
def atI (w0 W : World) (br b2 b4 : Nat) (a : Option Addr) (n c : Nat) (xs : List UInt8) (pr K : Nat) (tot : Int × List Term × List UInt8) (f : Nat → Value) (V : World) : Prop := f 0 = .pointer (some ⟨br, 0, none⟩) ∧ f 2 = .pointer (some ⟨b2, 0, none⟩) ∧ f 4 = .pointer (some ⟨b4, 0, none⟩) ∧ f 7 = .int .i64 (K : Nat) ∧ ∃ i : Nat, i ≤ K ∧ f 9 = .int .i64 (i : Nat) ∧ Hid (∃ O a' n' c' L p, Bld br W O V ∧ Sc W O V b2 Atom.zero.enc ∧ Sc W O V b4 (Atom.enc ⟨(pr : Int), ⟨a', n', c'⟩⟩) ∧ RowL W.heap.size O (.a 6 1) V 226 2 (.slice a' n' c') L.length (L.flatMap Term.enc) ∧ L.length = i ∧ Rdr w0 br a n c p V ∧ goT (K - i) L (xs.drop p) = tot)
attribute [local go_sem ↓] execOp_build execOp_bslice
attribute [local go_sem] build252 bslice192
set_option maxRecDepth 100000 in
theorem frame64a (f : Nat → Value) : frameN 64 f = #[f 0, f 1, f 2, f 3, f 4, f 5, f 6, f 7, f 8, f 9, f 10, f 11, f 12, f 13, f 14, f 15, f 16, f 17, f 18, f 19, f 20, f 21, f 22, f 23, f 24, f 25, f 26, f 27, f 28, f 29, f 30, f 31, f 32, f 33, f 34, f 35, f 36, f 37, f 38, f 39, f 40, f 41, f 42, f 43, f 44, f 45, f 46, f 47, f 48, f 49, f 50, f 51, f 52, f 53, f 54, f 55, f 56, f 57, f 58, f 59, f 60, f 61, f 62, f 63] := by kernel_rfl
set_option maxRecDepth 40000 in
set_option maxHeartbeats 4000000 in
theorem atom_any (w0 W : World) (br : Nat) (a : Option Addr) (n c p : Nat) (hR : Rdr w0 br a n c p W) (hn : n ≤ 65536) (hnc : n ≤ c) (hc : c ≤ 9223372036854775807) (xs : List UInt8) (hX : Bs w0 a n xs) : Calls Tryz.prog 116 #[.pointer (some ⟨br, 0, none⟩)] W (AtPost w0 br a n c xs W (atomD (xs.drop p))) := by
  obtain ⟨Q, hQ⟩ : ∃ Q, Q = AtPost w0 br a n c xs W (atomD (xs.drop p)) := ⟨_, rfl⟩
  rw [← hQ]
  have HQ := hid_of hQ
  have HR := hid_of hR
  have HX := hid_of hX
  have hbr := blk_lt hR.1
  clear hR hX hQ
  go_enter Tryz.func116, Tryz.ntmps116
  go_upto_region 2 with fail
  refine wp_world (fun V => ∃ O, Bld br W O V ∧ Sc W O V W.heap.size Atom.zero.enc ∧ Sc W O V (W.heap.size + 1) Atom.zero.enc ∧ Rdr w0 br a n c p V) ?_ ?_
  · have s1 := Sc.new (W := W) (O := OB br) (V := W) (Nat.le_refl _) (Atom.zero.enc).toArray 144
    have B1 := (Bld.refl hbr).step s1.1 (fun e => e)
    have s2 := Sc.new (W := W) (O := lab (OB br) W.heap.size (.a 0 9)) (V := W.alloc (.cells (Atom.zero.enc).toArray 144)) s1.1.size (Atom.zero.enc).toArray 144
    have R1 := (Bld.refl hbr).rdr HR.out.2.2.2.1 HR.out s1.1 (fun e => e) (fun e => e)
    refine ⟨_, B1.step s2.1 (fun e => e), s1.2.fr s2.1 (fun e => e), ?_, B1.rdr HR.out.2.2.2.1 R1 s2.1 (fun e => e) (fun e => e)⟩
    have := s2.2
    rw [World.size_alloc] at this ⊢
    exact this
  intro V1 HV1
  try simp only [World.size_alloc]
  obtain ⟨b2, hb2⟩ : ∃ b2, b2 = W.heap.size := ⟨_, rfl⟩
  obtain ⟨b4, hb4⟩ : ∃ b4, b4 = W.heap.size + 1 := ⟨_, rfl⟩
  rw [← hb4, ← hb2] at HV1 ⊢
  have n24 : b2 ≠ b4 := by omega
  have HN24 := hid_of n24
  obtain ⟨O1, hB1, hs2, hs4, hR1⟩ := HV1
  have HFIN : Hid (∀ (O : Own) (V : World) (x : Atom) (p' : Nat) (C2 : List Value), Bld br W O V → Sc W O V b2 C2 → Rdr w0 br a n c p' V → ((atomD (xs.drop p)).1 = 0 → AtomC (core O V) x (atomD (xs.drop p)).2.1 ∧ xs.drop p' = (atomD (xs.drop p)).2.2) → ∀ cd, cd = (atomD (xs.drop p)).1 → Q (.returned (.tuple #[.agg x.enc.toArray, .int .i64 cd])) (put V b2 x.enc)) := by
    intro O V x p' C2 h1 h2 h3 h4 cd h5
    obtain ⟨g1, g2, g3⟩ := h1.ret h3 h2 x.enc
    rw [HQ.out, h5]
    exact ⟨x, rfl, fun e => ((h4 e).1).sub g3, p', g2, g1, fun e => (h4 e).2⟩
  have hcall := nxt_any w0 V1 br a n c p hR1 hn hnc hc xs HX.out
  have HB1 := hid_of hB1
  have HS2 := hid_of hs2
  have HS4 := hid_of hs4
  clear hB1 hs2 hs4 hR1 hb2 hb4 n24
  go_wp2_with fail
  refine hcall.mono ?_
  rintro e V2 ⟨k1, ok1, p1, rfl, hN1, hR2, hSd2⟩
  dsimp only
  have hF2 := HB1.out.call hSd2
  have hB2 := HB1.out.step hF2 (fun e => by have := (Lab.a.inj e).2; omega)
  have hs2 := HS2.out.fr hF2 (fun e => by have := (Lab.a.inj e).1; omega)
  have hs4 := HS4.out.fr hF2 (fun e => by have := (Lab.a.inj e).1; omega)
  have hcall2 := nxt_any w0 V2 br a n c p1 hR2 hn hnc hc xs HX.out
  have HB2 := hid_of hB2
  have HS2 := hid_of hs2
  have HS4 := hid_of hs4
  have HN1 := hid_of hN1
  have hk1 := hN1.lt
  clear hB2 hs2 hs4 hR2 hN1 hF2 hSd2 hcall HB1
  go_wp2_with fail
  refine hcall2.mono ?_
  rintro e V3 ⟨k2, ok2, p2, rfl, hN2, hR3, hSd3⟩
  dsimp only
  have hF3 := HB2.out.call hSd3
  have hB3 := HB2.out.step hF3 (fun e => by have := (Lab.a.inj e).2; omega)
  have hs2 := HS2.out.fr hF3 (fun e => by have := (Lab.a.inj e).1; omega)
  have hs4 := HS4.out.fr hF3 (fun e => by have := (Lab.a.inj e).1; omega)
  have hk2 := hN2.lt
  have hb2 := hs2.cell
  have hf2 := hs2.fre
  have hb4 := hs4.cell
  have hf4 := hs4.fre
  have hn24 : ¬ b2 = b4 := HN24.out
  have HB3 := hid_of hB3
  have HS2 := hid_of hs2
  have HS4 := hid_of hs4
  have HR3 := hid_of hR3
  have HBAD : Hid (ok1 = false ∨ ok2 = false → atomD (xs.drop p) = (19, ⟨0, []⟩, [])) := by
    intro h
    rcases HN1.out.cases with ⟨e1, x, hx, hd⟩ | ⟨e1, hd, hp⟩
    · rcases hN2.cases with ⟨e2, y, hy, hd2⟩ | ⟨e2, hd2, hp2⟩
      · rcases h with h | h
        · rw [e1] at h; cases h
        · rw [e2] at h; cases h
      · rw [hd, hd2]; rfl
    · rw [hd]; rfl
  have HGOOD : Hid (ok1 = true → ok2 = true → atomD (xs.drop p) = ((goT k2 [] (xs.drop p2)).1, ⟨k1, (goT k2 [] (xs.drop p2)).2.1⟩, (goT k2 [] (xs.drop p2)).2.2)) := by
    intro h1 h2
    rcases HN1.out.cases with ⟨e1, x, hx, hd⟩ | ⟨e1, hd, hp⟩
    · rcases hN2.cases with ⟨e2, y, hy, hd2⟩ | ⟨e2, hd2, hp2⟩
      · rw [hd, hd2, hx, hy]; rfl
      · rw [e2] at h2; cases h2
    · rw [e1] at h1; cases h1
  clear hB3 hs2 hs4 hR3 hN2 hF3 hSd3 hcall2 HB2 HN1
  have hcases : (ok1 = false ∨ ok2 = false) ∨ (ok1 = true ∧ ok2 = true) := by cases ok1 <;> cases ok2 <;> simp
  rcases hcases with hbad | ⟨rfl, rfl⟩
  · have HP : Hid (Q (.returned (.tuple #[.agg (Atom.zero.enc).toArray, .int .i64 19])) (put V3 b2 Atom.zero.enc)) := by
      have h9 := HBAD.out hbad
      exact HFIN.out _ V3 Atom.zero p2 _ HB3.out HS2.out HR3.out (fun e => by rw [h9] at e; cases e) 19 (by rw [h9])
    have HBB := hid_of hbad
    clear HBAD HGOOD HFIN hbad
    cases ok1 with
    | false =>
      go_wp2_with fail
      refine ret_cell_tmp (C := Atom.zero.enc) rfl rfl rfl ?_ (by kernel_rfl) (by rw [Atom.length_enc]; kernel_rfl) rfl HP.out
      first | (rw [blk_put, if_pos rfl, hb2]; rfl) | (simp only [blk_put, if_true, hb2, Option.map_some]; try rfl)
    | true =>
      have e2 : ok2 = false := by
        rcases HBB.out with h | h
        · cases h
        · exact h
      subst e2
      go_wp2_with fail
      refine ret_cell_tmp (C := Atom.zero.enc) rfl rfl rfl ?_ (by kernel_rfl) (by rw [Atom.length_enc]; kernel_rfl) rfl HP.out
      first | (rw [blk_put, if_pos rfl, hb2]; rfl) | (simp only [blk_put, if_true, hb2, Option.map_some]; try rfl)
  obtain ⟨tot, htot⟩ : ∃ tot, tot = goT k2 [] (xs.drop p2) := ⟨_, rfl⟩
  have HG : Hid (atomD (xs.drop p) = (tot.1, ⟨k1, tot.2.1⟩, tot.2.2)) := by rw [htot]; exact HGOOD.out rfl rfl
  have h40 : Atom.enc ⟨((k1 : Nat) : Int), ⟨none, 0, 0⟩⟩ = splice Atom.zero.enc 0 [.int .i64 ((k1 : Nat) : Int)] := rfl
  have HI0 : Hid (∃ O a' n' c' L p', Bld br W O (put V3 b4 (Atom.enc ⟨((k1 : Nat) : Int), ⟨none, 0, 0⟩⟩)) ∧ Sc W O (put V3 b4 (Atom.enc ⟨((k1 : Nat) : Int), ⟨none, 0, 0⟩⟩)) b2 Atom.zero.enc ∧ Sc W O (put V3 b4 (Atom.enc ⟨((k1 : Nat) : Int), ⟨none, 0, 0⟩⟩)) b4 (Atom.enc ⟨(k1 : Int), ⟨a', n', c'⟩⟩) ∧ RowL W.heap.size O (.a 6 1) (put V3 b4 (Atom.enc ⟨((k1 : Nat) : Int), ⟨none, 0, 0⟩⟩)) 226 2 (.slice a' n' c') L.length (L.flatMap Term.enc) ∧ L.length = 0 ∧ Rdr w0 br a n c p' (put V3 b4 (Atom.enc ⟨((k1 : Nat) : Int), ⟨none, 0, 0⟩⟩)) ∧ goT (k2 - 0) L (xs.drop p') = tot) := by
    have hp := HS4.out.put (Atom.enc ⟨((k1 : Nat) : Int), ⟨none, 0, 0⟩⟩)
    exact ⟨_, none, 0, 0, [], p2, HB3.out.step hp.1 (fun e => by have := (Lab.a.inj e).1; omega), HS2.out.putO HN24.out, hp.2, RowL.nil _ _ _ _ _ _, rfl, HB3.out.rdr HR3.out.2.2.2.1 HR3.out hp.1 (fun e => by have := (Lab.a.inj e).1; omega) (fun e => by have := (Lab.a.inj e).1; omega), htot.symm⟩
  clear HBAD HGOOD htot HB3 HR3 HS2 HS4
  go_upto_region 8 with fail
  refine wp_world (fun V => ∃ (O : Own) (a' : Option Addr) (n' c' : Nat) (L : List Term) (p' : Nat), Bld br W O V ∧ Sc W O V b2 Atom.zero.enc ∧ Sc W O V b4 (Atom.enc ⟨(k1 : Int), ⟨a', n', c'⟩⟩) ∧ RowL W.heap.size O (.a 6 1) V 226 2 (.slice a' n' c') L.length (L.flatMap Term.enc) ∧ L.length = 0 ∧ Rdr w0 br a n c p' V ∧ goT (k2 - 0) L (xs.drop p') = tot) HI0.out ?_
  intro V4 HV4
  have HI := hid_of HV4
  clear HI0 HV4 hb2 hf2 hb4 hf4
  refine wp_loop_f 64 (atI w0 W br b2 b4 a n c xs k1 k2 tot) (fun f _ => k2 - (intOf (f 9)).toNat) rfl ⟨rfl, rfl, rfl, rfl, 0, by omega, rfl, HI⟩ ?_
  clear HI
  intro F V hrel
  obtain ⟨f0, f2, f4, f7, i, hi, f9, HI⟩ := hrel
  have H9 := hid_of f9
  rw [frame64a, f0, f2, f4, f7, f9]
  clear f0 f2 f4 f7 f9
  obtain ⟨O5, a', n', c', L, p5, hB, hs2, hs4, hrow, hLi, hRd, hgo⟩ := HI.out
  have hb2 := hs2.cell
  have hf2 := hs2.fre
  have hb4 := hs4.cell
  have hf4 := hs4.fre
  have HB := hid_of hB
  have HS2 := hid_of hs2
  have HS4 := hid_of hs4
  have HRW := hid_of hrow
  have HRD := hid_of hRd
  have HLI := hid_of hLi
  have hn' : n' = L.length := ((hrow.rw Term.length_enc).1.1).symm
  have HNL := hid_of hn'
  by_cases hin : i < k2
  rotate_left 1
  · have hin' : ¬ (i : Int) < (k2 : Int) := by omega
    have HP : Hid (Q (.returned (.tuple #[.agg (Atom.enc ⟨(k1 : Int), ⟨a', n', c'⟩⟩).toArray, .int .i64 0])) (put V b2 (Atom.enc ⟨(k1 : Int), ⟨a', n', c'⟩⟩))) := by
      have e1 : tot = (0, L, xs.drop p5) := by
        rw [← hgo, show k2 - i = 0 by omega]; rfl
      have hg := HG.out
      rw [e1] at hg
      show Q _ _
      obtain ⟨g1, g2, g3⟩ := HB.out.ret HRD.out HS2.out (Atom.enc ⟨(k1 : Int), ⟨a', n', c'⟩⟩)
      have hrw := (HRW.out.nw Term.length_enc)
      have hF := (HS2.out.put (Atom.enc ⟨(k1 : Int), ⟨a', n', c'⟩⟩)).1
      have hrw2 := (HRW.out.fr hF (fun e => by have := (Lab.a.inj e).1; omega)).nw Term.length_enc
      rw [HQ.out, hg]
      exact ⟨_, rfl, fun _ => ⟨rfl, hrw2⟩, p5, g2, g1, fun _ => rfl⟩
    clear HI hB hs2 hs4 hrow hRd hgo hLi hn'
    go_wp2_with fail
    refine ret_cell_tmp (C := Atom.enc ⟨(k1 : Int), ⟨a', n', c'⟩⟩) rfl rfl rfl ?_ (by kernel_rfl) (by rw [Atom.length_enc]; kernel_rfl) rfl HP.out
    first | (rw [blk_put, if_pos rfl, hb2]; rfl) | (simp only [blk_put, if_true, hb2, Option.map_some]; try rfl)
  have hin' : (i : Int) < (k2 : Int) := by omega
  have hcall := bit_any w0 V br a n c p5 hRd hn hnc hc xs HX.out
  obtain ⟨m, hm⟩ : ∃ m, k2 - i = m + 1 := ⟨k2 - i - 1, by omega⟩
  rw [hm] at hgo
  have HGO := hid_of hgo
  have HM := hid_of hm
  clear HI hB hs2 hs4 hrow hRd hgo hLi hn' hm
  have hn24 : ¬ b2 = b4 := HN24.out
  go_wp2_with fail
  refine hcall.mono ?_
  rintro e V6 ⟨rfl, p6, hR6, hSd6, hd6⟩
  dsimp only
  obtain ⟨cd, hcd⟩ : ∃ cd, cd = (bitD (xs.drop p5)).1 := ⟨_, rfl⟩
  obtain ⟨bb, hbb⟩ : ∃ bb, bb = (bitD (xs.drop p5)).2.1 := ⟨_, rfl⟩
  rw [← hcd, ← hbb]
  have hF6 := HB.out.call hSd6
  have hB6 := HB.out.step hF6 (fun e => by have := (Lab.a.inj e).2; omega)
  have hs2 := HS2.out.fr hF6 (fun e => by have := (Lab.a.inj e).1; omega)
  have hs4 := HS4.out.fr hF6 (fun e => by have := (Lab.a.inj e).1; omega)
  have hrow6 := HRW.out.fr hF6 (fun e => by have := (Lab.a.inj e).2; omega)
  have hb2 := hs2.cell
  have hf2 := hs2.fre
  have hb4 := hs4.cell
  have hf4 := hs4.fre
  by_cases hc0 : cd = 0
  rotate_left 1
  · have HP : Hid (Q (.returned (.tuple #[.agg (Atom.enc ⟨(k1 : Int), ⟨a', n', c'⟩⟩).toArray, .int .i64 cd])) (put V6 b2 (Atom.enc ⟨(k1 : Int), ⟨a', n', c'⟩⟩))) := by
      have e1 : tot = (cd, [], []) := by
        rw [← HGO.out, goT_bad (by rw [← hcd]; exact hc0), hcd]
      have hg := HG.out
      rw [e1] at hg
      exact HFIN.out _ V6 _ p6 _ hB6 hs2 hR6 (fun e => by rw [hg] at e; exact absurd e hc0) cd (by rw [hg])
    have hcb : (cd != 0) = true := by simp [hc0]
    clear hcall hF6 hB6 hs2 hs4 hrow6 hR6 hSd6 hd6 hc0 hcd hbb
    go_wp2_with fail
    refine ret_cell_tmp (C := Atom.enc ⟨(k1 : Int), ⟨a', n', c'⟩⟩) rfl rfl rfl ?_ (by kernel_rfl) (by rw [Atom.length_enc]; kernel_rfl) rfl HP.out
    first | (rw [blk_put, if_pos rfl, hb2]; rfl) | (simp only [blk_put, if_true, hb2, Option.map_some]; try rfl)
  rw [hc0]
  have hrest := hd6 (by rw [← hcd]; exact hc0)
  have hcz : (bitD (xs.drop p5)).1 = 0 := by rw [← hcd]; exact hc0
  have HCZ := hid_of hcz
  have HRS := hid_of hrest
  have HBB := hid_of hbb
  have hcall3 := nxt_any w0 V6 br a n c p6 hR6 hn hnc hc xs HX.out
  have HB6 := hid_of hB6
  have HS2 := hid_of hs2
  have HS4 := hid_of hs4
  have HR6 := hid_of hrow6
  clear hcall hF6 hB6 hs2 hs4 hrow6 hR6 hSd6 hd6 hc0 hcd hbb hcz hrest hb2 hf2 hb4 hf4 HB HRW
  go_wp2_with fail
  refine hcall3.mono ?_
  rintro e V7 ⟨k3, ok3, p7, rfl, hN3, hR7, hSd7⟩
  dsimp only
  have hF7 := HB6.out.call hSd7
  have hB7 := HB6.out.step hF7 (fun e => by have := (Lab.a.inj e).2; omega)
  have hs2 := HS2.out.fr hF7 (fun e => by have := (Lab.a.inj e).1; omega)
  have hs4 := HS4.out.fr hF7 (fun e => by have := (Lab.a.inj e).1; omega)
  have hrow7 := HR6.out.fr hF7 (fun e => by have := (Lab.a.inj e).2; omega)
  have hb2 := hs2.cell
  have hf2 := hs2.fre
  have hb4 := hs4.cell
  have hf4 := hs4.fre
  have hk3 := hN3.lt
  rcases hN3.cases with ⟨rfl, x, hx, hd⟩ | ⟨rfl, hd, hp7⟩
  rotate_left 1
  · have HP : Hid (Q (.returned (.tuple #[.agg (Atom.enc ⟨(k1 : Int), ⟨a', n', c'⟩⟩).toArray, .int .i64 19])) (put V7 b2 (Atom.enc ⟨(k1 : Int), ⟨a', n', c'⟩⟩))) := by
      have e1 : tot = (19, [], []) := by
        rw [← HGO.out, goT_end HCZ.out (by rw [← HRS.out]; exact hd)]
      have hg := HG.out
      rw [e1] at hg
      exact HFIN.out _ V7 _ p7 _ hB7 hs2 hR7 (fun e => by rw [hg] at e; cases e) 19 (by rw [hg])
    clear hcall3 hF7 hB7 hs2 hs4 hrow7 hR7 hSd7 hN3 hd hp7
    go_wp2_with fail
    refine ret_cell_tmp (C := Atom.enc ⟨(k1 : Int), ⟨a', n', c'⟩⟩) rfl rfl rfl ?_ (by kernel_rfl) (by rw [Atom.length_enc]; kernel_rfl) rfl HP.out
    first | (rw [blk_put, if_pos rfl, hb2]; rfl) | (simp only [blk_put, if_true, hb2, Option.map_some]; try rfl)
  obtain ⟨a2, c2, V8, hrun, hrow8, hF8⟩ := appL Term.enc 2 16 142 226 el192.und el192.info el192.len el192.one el192.pos el192.small 142 (⟨bb, (k3 : Int)⟩ : Term) hrow7 hB7.fr.size (by have := HLI.out; omega) (Term.enc ⟨bb, (k3 : Int)⟩).toArray rfl 1
  have hB8 := hB7.step hF8 (fun e => by have := (Lab.a.inj e).2; omega)
  have hs28 := hs2.fr hF8 (fun e => by have := (Lab.a.inj e).1; omega)
  have hs48 := hs4.fr hF8 (fun e => by have := (Lab.a.inj e).1; omega)
  have hR8 := hB7.rdr hR7.2.2.2.1 hR7 hF8 (fun e => by have := (Lab.a.inj e).2; omega) (fun e => by have := (Lab.a.inj e).2; omega)
  have hp8 := hs48.put (Atom.enc ⟨(k1 : Int), ⟨a2, n' + 1, c2⟩⟩)
  have HI' : Hid (∃ O a3 n3 c3 L p, Bld br W O (put V8 b4 (Atom.enc ⟨(k1 : Int), ⟨a2, n' + 1, c2⟩⟩)) ∧ Sc W O (put V8 b4 (Atom.enc ⟨(k1 : Int), ⟨a2, n' + 1, c2⟩⟩)) b2 Atom.zero.enc ∧ Sc W O (put V8 b4 (Atom.enc ⟨(k1 : Int), ⟨a2, n' + 1, c2⟩⟩)) b4 (Atom.enc ⟨(k1 : Int), ⟨a3, n3, c3⟩⟩) ∧ RowL W.heap.size O (.a 6 1) (put V8 b4 (Atom.enc ⟨(k1 : Int), ⟨a2, n' + 1, c2⟩⟩)) 226 2 (.slice a3 n3 c3) L.length (L.flatMap Term.enc) ∧ L.length = i + 1 ∧ Rdr w0 br a n c p (put V8 b4 (Atom.enc ⟨(k1 : Int), ⟨a2, n' + 1, c2⟩⟩)) ∧ goT (k2 - (i + 1)) L (xs.drop p) = tot) := by
    refine ⟨_, a2, n' + 1, c2, L ++ [⟨bb, (k3 : Int)⟩], p7, hB8.step hp8.1 (fun e => by have := (Lab.a.inj e).1; omega), hs28.putO HN24.out, hp8.2, hrow8.fr hp8.1 (fun e => by have := (Lab.a.inj e).1; omega), by rw [List.length_append, HLI.out]; rfl, hB8.rdr hR8.2.2.2.1 hR8 hp8.1 (fun e => by have := (Lab.a.inj e).1; omega) (fun e => by have := (Lab.a.inj e).1; omega), ?_⟩
    have e2 : k2 - (i + 1) = m := by have := HM.out; omega
    rw [e2, ← HGO.out, goT_ok HCZ.out (x := x) (r := xs.drop p7) (by rw [← HRS.out]; exact hd), ← HBB.out, hx]
  have hb28 := hs28.cell
  have hf28 := hs28.fre
  have hb48 := hs48.cell
  have hf48 := hs48.fre
  clear hcall3 hF7 hB7 hs2 hs4 hrow7 hR7 hSd7 hN3 hd hx hrow8 hF8 hB8 hs28 hs48 hR8 hp8 HB6 HR6 HS2 HS4 hb2 hf2
  go_wp2_with (at_builtin; refine wpList_append_run rfl _ _ 142 rfl _ _ _ _ rfl rfl hrun ?_)
  refine ⟨rfl, rfl, ⟨rfl, rfl, rfl, rfl, i + 1, by omega, ?_, HI'⟩, ?_⟩
  · show Value.int .i64 _ = _
    go_num
  · show k2 - (intOf (Value.int .i64 _)).toNat < k2 - (intOf (F 9)).toNat
    rw [H9.out]
    simp [intOf]; omega
end Go.Proofs.Qxb6500787aGreat
