/- FnExactIsDesk answers true at every input, with no condition. -/
import Derived.Test.YtncdecmcdlfmmaaDoorP13
import Derived.Test.YtncdecmcdlfmmaaDoorP14
import Derived.Test.YtncdecmcdlfmmaaDoorP15
import Derived.Test.YtncdecmcdlfmmaaDoorRows
import Derived.WalkKit
import Derived.ProofKit
import Derived.OpenShut
import Derived.ShutString
import Derived.ChangeOld
import Derived.Below
import Derived.SizedLaws
import Derived.Test.YtncdecmcdlfmmaaDoorCards
import Derived.Test.YtncdecmcdlfmmaaDoorTie
import Derived.SevenTiedAt
import Derived.Lay
import Derived.MakeChecks
import Derived.LaidLaws
import Derived.LaidHandle
import Derived.Stop.Joined
import Derived.Stop.LaidErr
import Derived.Lib.LaidTab
import Derived.Lib.ItoaNum
section
namespace Go.Proofs.YtncdecmcdlfmmaaDoor.fnExactIsDesk
open Go.ChangeShapes Go.WideShapes Go.ChangeAt Go.RowKit Go.Proofs.YtncdecmcdlfmmaaDoor.Open Go.Proofs.YtncdecmcdlfmmaaDoor.X Go.Proofs.YtncdecmcdlfmmaaDoorW.PrintWords
set_option linter.unusedVariables false
theorem own : ownKnob Tryd.prog.godebug = none := by kernel_rfl
theorem laidOut : laidOutB Tryd.prog = true := by kernel_rfl
set_option maxRecDepth 100000 in
set_option maxHeartbeats 2000000 in
theorem lifted (os : Os) (started : os.Started) (H : Type) (enc : TypeId × Value → H) :
    ReturnsInHanded {} Tryd.checked os 3 .any (fun w args => (Rows.fnExactIsDeskSpec.pre enc Tryd.prog Tryd.f3 Rows.fnExactIsDeskRow.domain false w args ∧ laidMetH Tryd.prog Rows.fnExactIsDeskRow.laid w) ∧ sizedMet enc Tryd.prog Tryd.f3 (OpenSpec.ofChange Rows.fnExactIsDeskSpec) false w args) (Rows.fnExactIsDeskSpec.post enc Tryd.prog Tryd.f3 false true false false) := by
  refine returnsInHanded_of_change_and (C := Tryd.checked) (X := fun w _ => laidMetH Tryd.prog Rows.fnExactIsDeskRow.laid w) (fun _ _ _ hh h => h.of_heap hh) own started (by kernel_rfl) Tryd.func3
    (ChangeSpec.witness_shaped (enc := enc) (C := Tryd.checked) (os := os) (X := fun w _ => laidMetH Tryd.prog Rows.fnExactIsDeskRow.laid w) false (World.laidAll Tryd.prog os Rows.fnExactIsDeskRow.laid) #[.agg #[.string ByteArray.empty, .string ByteArray.empty, .int .i64 0, .slice none 0 0, .slice none 0 0]] 8 (World.laidAll_os _ _ _)
      (World.shaped_of_ZipB (by kernel_rfl) (by kernel_rfl)) (by kernel_rfl) (by kernel_rfl) (by kernel_rfl)
      (by rw [MakeChecks.laidMetH_plain _ _ _ (by kernel_rfl)]; exact laidMet_laidAll _ (by kernel_rfl) (by kernel_rfl))) ?_
  intro W base args ds gs before hval0 hW hcnd hsz0 hL _
  have hsz : (DataW.weightsEach Tryd.prog (Tryd.f3.params.toList ++ Rows.fnExactIsDeskSpec.plain.varTypes Tryd.prog) (ds ++ gs)).all (· ≤ reachBytes) = true := hsz0
  have hval : ∀ (j : Nat) t v, Tryd.f3.params[j]? = some t → args[j]? = some v → Value.okWide Tryd.prog W .any base t v := hval0
  have hW' := hW
  obtain ⟨p, q, hA0, hV, rfl, hfz, hnd⟩ := hW
  have hA : DataW.TrodAll enc Tryd.prog W 0 (fun _ => true) true Tryd.f3.params.toList args.toList ds p := hA0
  rw [Tryd.params3] at hA hval hsz
  obtain ⟨v0, vs0, d0, ds0, p0, q0, hargs, rfl, rfl, h0, r0⟩ := trodAll_cons hA
  obtain ⟨rfl, rfl, rfl⟩ := trodAll_nil r0
  obtain rfl : args = #[v0] := by cases args; simp_all
  obtain ⟨rfl, rfl⟩ := trodVars_none hV
  have g0 := h0
  have lt0 := trod_lt_arg g0
  obtain ⟨⟨a0_0, a0_1, ⟨a0_2_0, l0_2_1⟩, l0_3⟩, hK0, hw0⟩ := opens_arg (opens_struct Tryd.underlying27 (by kernel_rfl) (opens_cons (opens_string Tryd.underlying9 (by kernel_rfl)) rfl (opens_cons (opens_string Tryd.underlying9 (by kernel_rfl)) rfl (opens_cons (opens_struct Tryd.underlying24 (by kernel_rfl) (opens_cons (opens_int Tryd.underlying3 (by kernel_rfl)) rfl (opens_last (opens_slice Tryd.underlying22 (by kernel_rfl) (opens_struct Tryd.underlying77 (by kernel_rfl) (opens_cons (opens_int Tryd.underlying3 (by kernel_rfl)) rfl (opens_cons (opens_int Tryd.underlying3 (by kernel_rfl)) rfl (opens_last (opens_int Tryd.underlying3 (by kernel_rfl)) rfl))) (fun x : S77 => (x.f0, x.f1, x.f2)) (fun p => ⟨p.1, p.2.1, p.2.2⟩) (fun _ => rfl))) rfl)) (fun x : S24 => (x.f0, x.f1)) (fun p => ⟨p.1, p.2⟩) (fun _ => rfl)) rfl (opens_last (opens_slice Tryd.underlying25 (by kernel_rfl) (opens_int Tryd.underlying3 (by kernel_rfl))) rfl)))) (fun x => x) (fun x => x) (fun _ => rfl)) h0
  have hK0' : ∃ l, v0.cells.toList = l ∧ (Kd.iso (Kd.pair Kd.string (Kd.pair Kd.string (Kd.pair k24 (Kd.slice 3 (Kd.int .i64))))) (fun x => x)).K W (a0_0, a0_1, (⟨a0_2_0, l0_2_1⟩ : S24), l0_3) l := ⟨_, rfl, hK0⟩
  clear hK0
  obtain ⟨z0, hz0, ⟨_, _, rfl, rfl, ⟨_, _, rfl, rfl, ⟨_, _, rfl, ⟨_, _, rfl, rfl, ⟨A0_2_1, c0_2_1, rfl, hc0_2_1, hr0_2_1⟩⟩, ⟨A0_3, c0_3, rfl, hc0_3, hr0_3⟩⟩⟩⟩⟩ := hK0'
  obtain rfl := agg_of Tryd.underlying27 (hval 0 27 v0 rfl rfl) hz0
  clear hz0
  obtain ⟨w0_0, w0_1, ⟨w0_2_0, w0_2_1⟩, w0_3⟩ := hw0
  clear hA0 hval0 hsz0 hsz
  obtain ⟨k, h⟩ := Pure.FnExactIsDesk a0_0 a0_1 a0_2_0 l0_2_1 l0_3 w0_0 w0_1 w0_2_0 w0_2_1 w0_3
  refine (laws_FnExactIsDesk.calls k a0_0 a0_1 a0_2_0 _ _ l0_2_1 _ _ l0_3 true W hr0_2_1 hc0_2_1 hr0_3 hc0_3 h).mono fun e W' hh => ?_
  obtain ⟨he, bel⟩ := hh
  subst he
  exact ⟨_, rfl, _, _, _, [], _, [], hW', trodAll_mk1 (shut_bool Tryd.underlying4 _), (trodAll_cons_mk (Below.trod laidOut (by kernel_rfl) (of_decide_eq_true (by kernel_rfl)) g0 bel lt0) trodAll_mk0), rfl, bel.frame _, fun h => by cases h⟩
theorem over : Rows.fnExactIsDeskRow.holds Tryd.pinned (OpenSpec.ofChange Rows.fnExactIsDeskSpec) :=
  OpenClaim.holds_of_wide 3 Tryd.f3 rfl rfl rfl rfl rfl rfl rfl ⟨rfl, rfl, rfl, rfl, rfl⟩ rfl rfl rfl rfl rfl (by kernel_rfl) Tryd.func3 (by kernel_rfl)
    (of_decide_eq_true (by kernel_rfl)) (by unfold Func.isWrapper; first | (rw [if_pos (by decide +kernel)]; kernel_rfl) | (rw [if_neg (by decide +kernel)]; exact ⟨rfl, rfl⟩))
    (fun os started H enc _ => lifted os started H enc)
theorem proved : Rows.FnExactIsDeskCardSaid :=
  Claim7.holds_tied_plain_at .later [] [.data, .pinned] true (true, "d096009ed84eb1348e644cd275abc752e9e154cbb440fa89232054dff7d4a1fc") true
    over (fun _ h => by cases h) (by kernel_rfl) (fun _ h => by cases h) fnExactIsDesk_row_tie rfl ⟨rfl, rfl⟩ (by kernel_rfl) rfl
    (fun f fn hf hfn => by
      obtain rfl : f = 3 := Option.some.inj ((show Tryd.prog.funcNamed Rows.fnExactIsDeskRow.func = some 3 by kernel_rfl).symm.trans hf) |>.symm
      obtain rfl : fn = Tryd.f3 := (Option.some.inj (Tryd.func3.symm.trans hfn)).symm
      exact ⟨by kernel_rfl, fun j t ht => by
        rw [Tryd.params3] at ht
        have hm : t ∈ ([27] : List Nat) := List.mem_of_getElem? (i := j) (by simpa using ht)
        simp only [List.mem_cons, List.not_mem_nil, or_false] at hm
        rcases hm with rfl
        · exact (show Tryd.prog.wantsStandIn 27 = false by kernel_rfl)⟩)
    (by kernel_rfl)
#print axioms proved
end Go.Proofs.YtncdecmcdlfmmaaDoor.fnExactIsDesk
namespace Go.Proofs.YtncdecmcdlfmmaaDoor
/-- The tied card, under a short name, for the claim. -/
theorem fnExactIsDesk_holds : Rows.FnExactIsDeskCardSaid := fnExactIsDesk.proved
end Go.Proofs.YtncdecmcdlfmmaaDoor
end
