/- FnExactDoesFit answers true at every input, with no condition. -/
import Derived.Test.YticmboabiemniaaDoorP14
import Derived.Test.YticmboabiemniaaDoorP15
import Derived.Test.YticmboabiemniaaDoorP16
import Derived.Test.YticmboabiemniaaDoorRows
import Derived.WalkKit
import Derived.ProofKit
import Derived.OpenShut
import Derived.ShutString
import Derived.ChangeOld
import Derived.Below
import Derived.SizedLaws
import Derived.Test.YticmboabiemniaaDoorCards
import Derived.Test.YticmboabiemniaaDoorTie
import Derived.SevenTiedAt
import Derived.Lay
import Derived.MakeChecks
import Derived.LaidLaws
import Derived.LaidHandle
import Derived.Stop.Joined
import Derived.Lib.LaidTab
section
namespace Go.Proofs.YticmboabiemniaaDoor.fnExactDoesFit
open Go.ChangeShapes Go.WideShapes Go.ChangeAt Go.RowKit Go.Proofs.YticmboabiemniaaDoor.Open Go.Proofs.YticmboabiemniaaDoor.X Go.Proofs.YticmboabiemniaaDoorW.PrintWords
set_option linter.unusedVariables false
theorem own : ownKnob Tryd.prog.godebug = none := by kernel_rfl
theorem laidOut : laidOutB Tryd.prog = true := by kernel_rfl
set_option maxRecDepth 100000 in
set_option maxHeartbeats 2000000 in
theorem lifted (os : Os) (started : os.Started) (H : Type) (enc : TypeId × Value → H) :
    ReturnsInHanded {} Tryd.checked os 3 .any (fun w args => (Rows.fnExactDoesFitSpec.pre enc Tryd.prog Tryd.f3 Rows.fnExactDoesFitRow.domain false w args ∧ laidMetH Tryd.prog Rows.fnExactDoesFitRow.laid w) ∧ sizedMet enc Tryd.prog Tryd.f3 (OpenSpec.ofChange Rows.fnExactDoesFitSpec) false w args) (Rows.fnExactDoesFitSpec.post enc Tryd.prog Tryd.f3 false true false false) := by
  refine returnsInHanded_of_change_and (C := Tryd.checked) (X := fun w _ => laidMetH Tryd.prog Rows.fnExactDoesFitRow.laid w) (fun _ _ _ hh h => h.of_heap hh) own started (by kernel_rfl) Tryd.func3
    (ChangeSpec.witness_shaped (enc := enc) (C := Tryd.checked) (os := os) (X := fun w _ => laidMetH Tryd.prog Rows.fnExactDoesFitRow.laid w) false (World.laidAll Tryd.prog os Rows.fnExactDoesFitRow.laid) #[.agg #[.int .i64 0, .int .i64 0, .int .i64 0], .string ByteArray.empty] 8 (World.laidAll_os _ _ _)
      (World.shaped_of_ZipB (by kernel_rfl) (by kernel_rfl)) (by kernel_rfl) (by kernel_rfl) (by kernel_rfl)
      (by rw [MakeChecks.laidMetH_plain _ _ _ (by kernel_rfl)]; exact laidMet_laidAll _ (by kernel_rfl) (by kernel_rfl))) ?_
  intro W base args ds gs before hval0 hW hcnd hsz0 hL _
  have hsz : (DataW.weightsEach Tryd.prog (Tryd.f3.params.toList ++ Rows.fnExactDoesFitSpec.plain.varTypes Tryd.prog) (ds ++ gs)).all (· ≤ reachBytes) = true := hsz0
  have hval : ∀ (j : Nat) t v, Tryd.f3.params[j]? = some t → args[j]? = some v → Value.okWide Tryd.prog W .any base t v := hval0
  have hW' := hW
  obtain ⟨p, q, hA0, hV, rfl, hfz, hnd⟩ := hW
  have hA : DataW.TrodAll enc Tryd.prog W 0 (fun _ => true) true Tryd.f3.params.toList args.toList ds p := hA0
  rw [Tryd.params3] at hA hval hsz
  obtain ⟨v0, vs0, d0, ds0, p0, q0, hargs, rfl, rfl, h0, r0⟩ := trodAll_cons hA
  obtain ⟨v1, vs1, d1, ds1, p1, q1, rfl, rfl, rfl, h1, r1⟩ := trodAll_cons r0
  obtain ⟨rfl, rfl, rfl⟩ := trodAll_nil r1
  obtain rfl : args = #[v0, v1] := by cases args; simp_all
  obtain ⟨rfl, rfl⟩ := trodVars_none hV
  have g0 := h0
  have lt0 := trod_lt_arg g0
  obtain ⟨⟨a0_0, a0_1, a0_2⟩, hK0, hw0⟩ := opens_arg (opens_struct Tryd.underlying23 (by kernel_rfl) (opens_cons (opens_int Tryd.underlying3 (by kernel_rfl)) rfl (opens_cons (opens_int Tryd.underlying3 (by kernel_rfl)) rfl (opens_last (opens_int Tryd.underlying3 (by kernel_rfl)) rfl))) (fun x => x) (fun x => x) (fun _ => rfl)) h0
  have hK0' : ∃ l, v0.cells.toList = l ∧ (Kd.iso (Kd.pair (Kd.int .i64) (Kd.pair (Kd.int .i64) (Kd.int .i64))) (fun x => x)).K W (a0_0, a0_1, a0_2) l := ⟨_, rfl, hK0⟩
  clear hK0
  obtain ⟨z0, hz0, ⟨_, _, rfl, rfl, ⟨_, _, rfl, rfl, rfl⟩⟩⟩ := hK0'
  obtain rfl := agg_of Tryd.underlying23 (hval 0 23 v0 rfl rfl) hz0
  clear hz0
  obtain ⟨w0_0, w0_1, w0_2⟩ := hw0
  have g1 := h1
  have lt1 := trod_lt_arg g1
  obtain ⟨s1_, rfl, rfl, rfl, _⟩ := Go.ChangeMaps.open_string Tryd.underlying9 (hval 1 9 v1 rfl rfl) h1
  have y1 : s1_.size ≤ 140737488351232 := by
    have z := sized_string hsz (j := 1) (t := 9) rfl rfl
    rw [Array.length_toList] at z
    exact z
  obtain ⟨a1, e1, w1⟩ := opens_arg (opens_string Tryd.underlying9 (by kernel_rfl)) h1
  obtain rfl : a1 = s1_ := by simpa [Value.cells] using (show (Value.string s1_).cells.toList = [.string a1] from e1).symm
  clear e1
  clear hA0 hval0 hsz0 hsz
  obtain ⟨k, h⟩ := Pure.FnExactDoesFit a0_0 a0_1 a0_2 a1 w0_0 w0_1 w0_2 y1
  refine (laws_FnExactDoesFit.calls k a0_0 a0_1 a0_2 a1 true W  h).mono fun e W' hh => ?_
  obtain ⟨he, bel⟩ := hh
  subst he
  exact ⟨_, rfl, _, _, _, [], _, [], hW', trodAll_mk1 (shut_bool Tryd.underlying4 _), (trodAll_cons_mk (Below.trod laidOut (by kernel_rfl) (of_decide_eq_true (by kernel_rfl)) g0 bel lt0) (trodAll_cons_mk (Below.trod laidOut (by kernel_rfl) (of_decide_eq_true (by kernel_rfl)) g1 bel lt1) trodAll_mk0)), rfl, bel.frame _, fun h => by cases h⟩
theorem over : Rows.fnExactDoesFitRow.holds Tryd.pinned (OpenSpec.ofChange Rows.fnExactDoesFitSpec) :=
  OpenClaim.holds_of_wide 3 Tryd.f3 rfl rfl rfl rfl rfl rfl rfl ⟨rfl, rfl, rfl, rfl, rfl⟩ rfl rfl rfl rfl rfl (by kernel_rfl) Tryd.func3 (by kernel_rfl)
    (of_decide_eq_true (by kernel_rfl)) (by unfold Func.isWrapper; first | (rw [if_pos (by decide +kernel)]; kernel_rfl) | (rw [if_neg (by decide +kernel)]; exact ⟨rfl, rfl⟩))
    (fun os started H enc _ => lifted os started H enc)
theorem proved : Rows.FnExactDoesFitCardSaid :=
  Claim7.holds_tied_plain_at .later [] [.data, .pinned] true (true, "a0f9969808958609d4dcbc1b6cb19f0f751c02739fc0dc043d9040cd902cf893") true
    over (fun _ h => by cases h) (by kernel_rfl) (fun _ h => by cases h) fnExactDoesFit_row_tie rfl ⟨rfl, rfl⟩ (by kernel_rfl) rfl
    (fun f fn hf hfn => by
      obtain rfl : f = 3 := Option.some.inj ((show Tryd.prog.funcNamed Rows.fnExactDoesFitRow.func = some 3 by kernel_rfl).symm.trans hf) |>.symm
      obtain rfl : fn = Tryd.f3 := (Option.some.inj (Tryd.func3.symm.trans hfn)).symm
      exact ⟨by kernel_rfl, fun j t ht => by
        rw [Tryd.params3] at ht
        have hm : t ∈ ([23, 9] : List Nat) := List.mem_of_getElem? (i := j) (by simpa using ht)
        simp only [List.mem_cons, List.not_mem_nil, or_false] at hm
        rcases hm with rfl | rfl
        · exact (show Tryd.prog.wantsStandIn 23 = false by kernel_rfl)
        · exact (show Tryd.prog.wantsStandIn 9 = false by kernel_rfl)⟩)
    (by kernel_rfl)
#print axioms proved
end Go.Proofs.YticmboabiemniaaDoor.fnExactDoesFit
namespace Go.Proofs.YticmboabiemniaaDoor
/-- The tied card, under a short name, for the claim. -/
theorem fnExactDoesFit_holds : Rows.FnExactDoesFitCardSaid := fnExactDoesFit.proved
end Go.Proofs.YticmboabiemniaaDoor
end
