import Derived.Test.Qxb6500786aGreatRows
import Derived.Test.Qxb6500786aGreatRve
import Derived.Test.Qxb6500786aGreatRecb
import Derived.Test.Qxb6500786aGreatLaw
import Derived.WalkKit
import Derived.ProofKit
import Derived.OpenShut
import Derived.ShutString
set_option linter.unusedVariables false
namespace Go.Proofs.Qxb6500786aGreat.revertRestores
open Go.ChangeShapes Go.WideShapes Go.ChangeAt Go.RowKit
theorem own : ownKnob Tryz.prog.godebug = none := by kernel_rfl

set_option maxRecDepth 100000 in
theorem lifted (os : Os) (started : os.Started) (H : Type) (enc : TypeId × Value → H) :
    ReturnsInHanded {} Tryz.checked os 9 .any (Rows.revertRestoresSpec.pre6 enc Tryz.prog Tryz.f9 Rows.revertRestoresRow.domain false) (Rows.revertRestoresSpec.post enc Tryz.prog Tryz.f9 false true false false) := by
  refine returnsInHanded_of_change_sized (C := Tryz.checked) own started (by kernel_rfl) Tryz.func9
    (ChangeSpec.witness6 (enc := enc) (C := Tryz.checked) false ⟨#[], #[.slice none 0 0], []⟩ 8 (by kernel_rfl) (by kernel_rfl) (by kernel_rfl) (by kernel_rfl)) ?_
  intro W base args ds gs before hval0 hW hcnd hsz _
  have hW' := hW
  obtain ⟨p, q, hA0, hV, rfl, hfz, hnd⟩ := hW
  have hA : DataW.TrodAll enc Tryz.prog W 0 (fun _ => true) true Tryz.f9.params.toList args.toList ds p := hA0
  have hsz' : (DataW.weightsEach Tryz.prog (Tryz.f9.params.toList ++ Rows.revertRestoresSpec.plain.varTypes Tryz.prog) (ds ++ gs)).all (· ≤ reachBytes) = true := hsz
  rw [Tryz.params9] at hA hsz'
  obtain ⟨v, vs, d, ds', p1, p2, hargs, rfl, rfl, h1, h2⟩ := trodAll_cons hA
  obtain ⟨rfl, rfl, rfl⟩ := trodAll_nil h2
  obtain ⟨rfl, rfl⟩ := trodVars_none hV
  have harg : args = #[v] := by
    apply Array.toList_inj.1
    exact hargs
  subst harg
  have hv0 : Value.okWide Tryz.prog W .any base 22 v := hval0 0 22 v (by kernel_rfl) rfl
  clear hA0 hval0 hsz
  simp only [List.append_nil] at hW' hsz'
  obtain ⟨n, hn⟩ := h1
  have hR : ∀ m ∈ d.weights Tryz.prog 22, m ≤ 140737488351232 := fun m hm => by
    have := List.all_eq_true.1 hsz' m (DataW.weights_mem_each (j := 0) rfl rfl m hm)
    exact (of_decide_eq_true this : m ≤ reachBytes)
  have hval22 : v.cells.toList = [v] := by
    unfold Value.okWide Cell.okWide Cell.ok at hv0
    rw [Tryz.underlying22] at hv0
    cases v <;> first | rfl | exact hv0.elim
  obtain ⟨a, len, cap, g, dt, hcs, hS⟩ := script_of_trod hn hR
  have hv : v = .slice a len cap := by
    rw [hval22] at hcs
    simpa using hcs
  subst hv
  refine (revert_walk W a len cap g dt hS).mono fun e W' ⟨he, hg⟩ => ?_
  subst he
  exact ⟨_, rfl, post_of_extends (pa := p1) (pv := []) hW' (fun _ _ _ => (trodAll_cons_mk (shut_bool Tryz.underlying4 _) trodAll_mk0))
    (fun sp hsp => ⟨p1, [], script_carry ⟨n, hn⟩ (fun q hq => hsp q (by simpa using hq)) hg, rfl, by simp⟩) (fun _ _ => rfl) (by simp)
    hg (ok_one (by kernel_rfl) rfl (okWide_bool_mk Tryz.underlying4 _))⟩

theorem norec9 : Tryz.pinned.checked.prog.recurses 9 = false := norec (f := 9) (of_decide_eq_true (by kernel_rfl)) (by kernel_rfl)
set_option maxRecDepth 100000 in
theorem closed9 : joinedFacts Tryz.pinned.checked.prog 9 Tryz.f9 Rows.revertRestoresSpec Rows.revertRestoresRow = true := by
  unfold joinedFacts
  rw [norec9]
  kernel_rfl
theorem over : Rows.revertRestoresRow.holds Tryz.pinned (OpenSpec.ofChange Rows.revertRestoresSpec) :=
  OpenClaim.holds_of_wide 9 Tryz.f9 rfl rfl rfl rfl rfl rfl rfl ⟨rfl, rfl, rfl, rfl, rfl⟩ rfl rfl rfl rfl rfl (by kernel_rfl) Tryz.func9 closed9
    (of_decide_eq_true (by kernel_rfl)) (by unfold Func.isWrapper; first | (rw [if_pos (by decide +kernel)]; kernel_rfl) | (rw [if_neg (by decide +kernel)]; exact ⟨rfl, rfl⟩))
    (fun os started H enc _ => lifted os started H enc)

/-- THE STATEMENT. -/
theorem proved : Rows.RevertRestoresSaid :=
  over
#print axioms proved
end Go.Proofs.Qxb6500786aGreat.revertRestores
