/- FnExactSureSigns answers true at every input, with no condition. -/
import Derived.Test.YtonifgfgeollaaaP16
import Derived.Test.YtonifgfgeollaaaP18
import Derived.Test.YtonifgfgeollaaaP19
import Derived.Test.YtonifgfgeollaaaRows
import Derived.WalkKit
import Derived.ProofKit
import Derived.OpenShut
import Derived.ShutString
import Derived.ChangeOld
import Derived.Below
import Derived.SizedLaws
section
namespace Go.Proofs.Ytonifgfgeollaaa.fnExactSureSigns
open Go.ChangeShapes Go.WideShapes Go.ChangeAt Go.RowKit Go.Proofs.Ytonifgfgeollaaa.Open Go.Proofs.Ytonifgfgeollaaa.X Go.Proofs.YtonifgfgeollaaaW.PrintWords
set_option linter.unusedVariables false
theorem own : ownKnob Try.prog.godebug = none := by kernel_rfl
theorem laidOut : laidOutB Try.prog = true := by kernel_rfl
set_option maxRecDepth 100000 in
set_option maxHeartbeats 2000000 in
theorem lifted (os : Os) (started : os.Started) (H : Type) (enc : TypeId × Value → H) :
    ReturnsInHanded {} Try.checked os 11 .any (Rows.fnExactSureSignsSpec.pre6 enc Try.prog Try.f11 Rows.fnExactSureSignsRow.domain false) (Rows.fnExactSureSignsSpec.post enc Try.prog Try.f11 false true false false) := by
  refine returnsInHanded_of_change_sized (C := Try.checked) own started (by kernel_rfl) Try.func11
    (ChangeSpec.witness6 (enc := enc) (C := Try.checked) false ⟨#[], #[.agg #[.int .i64 0, .slice none 0 0]], []⟩ 8 (by kernel_rfl) (by kernel_rfl) (by kernel_rfl) (by kernel_rfl)) ?_
  intro W base args ds gs before hval0 hW hcnd hsz0 _
  have hsz : (DataW.weightsEach Try.prog (Try.f11.params.toList ++ Rows.fnExactSureSignsSpec.plain.varTypes Try.prog) (ds ++ gs)).all (· ≤ reachBytes) = true := hsz0
  have hval : ∀ (j : Nat) t v, Try.f11.params[j]? = some t → args[j]? = some v → Value.okWide Try.prog W .any base t v := hval0
  have hW' := hW
  obtain ⟨p, q, hA0, hV, rfl, hfz, hnd⟩ := hW
  have hA : DataW.TrodAll enc Try.prog W 0 (fun _ => true) true Try.f11.params.toList args.toList ds p := hA0
  rw [Try.params11] at hA hval hsz
  obtain ⟨v0, vs0, d0, ds0, p0, q0, hargs, rfl, rfl, h0, r0⟩ := trodAll_cons hA
  obtain ⟨rfl, rfl, rfl⟩ := trodAll_nil r0
  obtain rfl : args = #[v0] := by cases args; simp_all
  obtain ⟨rfl, rfl⟩ := trodVars_none hV
  have g0 := h0
  have lt0 := trod_lt_arg g0
  obtain ⟨⟨a0_0, l0_1⟩, hK0, hw0⟩ := opens_arg (opens_struct Try.underlying30 (by kernel_rfl) (opens_cons (opens_int Try.underlying3 (by kernel_rfl)) rfl (opens_last (opens_slice Try.underlying28 (by kernel_rfl) (opens_struct Try.underlying23 (by kernel_rfl) (opens_cons (opens_int Try.underlying3 (by kernel_rfl)) rfl (opens_cons (opens_int Try.underlying3 (by kernel_rfl)) rfl (opens_last (opens_int Try.underlying3 (by kernel_rfl)) rfl))) (fun x : S23 => (x.f0, x.f1, x.f2)) (fun p => ⟨p.1, p.2.1, p.2.2⟩) (fun _ => rfl))) rfl)) (fun x => x) (fun x => x) (fun _ => rfl)) h0
  have hK0' : ∃ l, v0.cells.toList = l ∧ (Kd.iso (Kd.pair (Kd.int .i64) (Kd.slice 23 k23)) (fun x => x)).K W (a0_0, l0_1) l := ⟨_, rfl, hK0⟩
  clear hK0
  obtain ⟨z0, hz0, ⟨_, _, rfl, rfl, ⟨A0_1, c0_1, rfl, hc0_1, hr0_1⟩⟩⟩ := hK0'
  obtain rfl := agg_of Try.underlying30 (hval 0 30 v0 rfl rfl) hz0
  clear hz0
  obtain ⟨w0_0, w0_1⟩ := hw0
  clear hA0 hval0 hsz0 hsz
  obtain ⟨k, h⟩ := Pure.FnExactSureSigns a0_0 l0_1 w0_0 w0_1
  refine (laws_FnExactSureSigns.calls k a0_0 _ _ l0_1 true W hr0_1 hc0_1 h).mono fun e W' hh => ?_
  obtain ⟨he, bel⟩ := hh
  subst he
  exact ⟨_, rfl, _, _, _, [], _, [], hW', trodAll_mk1 (shut_bool Try.underlying4 _), (trodAll_cons_mk (Below.trod laidOut (by kernel_rfl) (of_decide_eq_true (by kernel_rfl)) g0 bel lt0) trodAll_mk0), rfl, bel.frame _, fun h => by cases h⟩
theorem over : Rows.fnExactSureSignsRow.holds Try.pinned (OpenSpec.ofChange Rows.fnExactSureSignsSpec) :=
  OpenClaim.holds_of_wide 11 Try.f11 rfl rfl rfl rfl rfl rfl rfl ⟨rfl, rfl, rfl, rfl, rfl⟩ rfl rfl rfl rfl rfl (by kernel_rfl) Try.func11 (by kernel_rfl)
    (of_decide_eq_true (by kernel_rfl)) (by unfold Func.isWrapper; first | (rw [if_pos (by decide +kernel)]; kernel_rfl) | (rw [if_neg (by decide +kernel)]; exact ⟨rfl, rfl⟩))
    (fun os started H enc _ => lifted os started H enc)
theorem proved : Rows.FnExactSureSignsSaid := over
#print axioms proved
end Go.Proofs.Ytonifgfgeollaaa.fnExactSureSigns
namespace Go.Proofs.Ytonifgfgeollaaa
/-- The row, under a short name, for the claim. -/
theorem fnExactSureSigns_holds : Rows.FnExactSureSignsSaid := fnExactSureSigns.proved
end Go.Proofs.Ytonifgfgeollaaa
end
