/- FnExactPuzzleText answers true at every input, with no condition. -/
import Derived.Test.YtonifgfgeollaaaDoorP12
import Derived.Test.YtonifgfgeollaaaDoorP13
import Derived.Test.YtonifgfgeollaaaDoorP14
import Derived.Test.YtonifgfgeollaaaDoorRows
import Derived.WalkKit
import Derived.ProofKit
import Derived.OpenShut
import Derived.ShutString
import Derived.ChangeOld
import Derived.Below
import Derived.SizedLaws
import Derived.Test.YtonifgfgeollaaaDoorCards
import Derived.Test.YtonifgfgeollaaaDoorTie
import Derived.SevenTiedAt
import Derived.Lay
import Derived.MakeChecks
import Derived.LaidLaws
import Derived.LaidHandle
import Derived.Stop.Joined
import Derived.Stop.LaidErr
import Derived.Lib.LaidTab
import Derived.Lib.ItoaNum
section
namespace Go.Proofs.YtonifgfgeollaaaDoor.fnExactPuzzleText
open Go.ChangeShapes Go.WideShapes Go.ChangeAt Go.RowKit Go.Proofs.YtonifgfgeollaaaDoor.Open Go.Proofs.YtonifgfgeollaaaDoor.X Go.Proofs.YtonifgfgeollaaaDoorW.PrintWords
set_option linter.unusedVariables false
theorem own : ownKnob Tryd.prog.godebug = none := by kernel_rfl
theorem laidOut : laidOutB Tryd.prog = true := by kernel_rfl
theorem tab_pow10 {W : World} (h : laidMetH Tryd.prog Rows.fnExactPuzzleTextRow.laid W) : Tab_pow10 W := by
  rw [MakeChecks.laidMetH_plain _ _ _ (by kernel_rfl)] at h
  have h1 : laidMet Tryd.prog (Rows.fnExactPuzzleTextRow.laid.drop 1) W := (show laidMet Tryd.prog (Rows.fnExactPuzzleTextRow.laid.getD 0 ("", .nil) :: Rows.fnExactPuzzleTextRow.laid.drop 1) W from h).tail
  have h2 : laidMet Tryd.prog (Rows.fnExactPuzzleTextRow.laid.drop 2) W := (show laidMet Tryd.prog (Rows.fnExactPuzzleTextRow.laid.getD 1 ("", .nil) :: Rows.fnExactPuzzleTextRow.laid.drop 2) W from h1).tail
  exact Lib.tabIs_of_head (g := 0) (t := 78) (e := 68) (n := 20) (rest := Rows.fnExactPuzzleTextRow.laid.drop 3) (by kernel_rfl) (by kernel_rfl) Tryd.underlying78 Tryd.underlying68 (by kernel_rfl) (by kernel_rfl) (by
    have e : (Rows.laid_internal_strconv_uint64pow10 : DataW Unit) = Lib.tabData .u64 Lib.pow10Tab := by kernel_rfl
    rw [← e]
    exact h2)
set_option maxRecDepth 100000 in
set_option maxHeartbeats 2000000 in
theorem lifted (os : Os) (started : os.Started) (H : Type) (enc : TypeId × Value → H) :
    ReturnsInHanded {} Tryd.checked os 3 .any (fun w args => (Rows.fnExactPuzzleTextSpec.pre enc Tryd.prog Tryd.f3 Rows.fnExactPuzzleTextRow.domain false w args ∧ laidMetH Tryd.prog Rows.fnExactPuzzleTextRow.laid w) ∧ sizedMet enc Tryd.prog Tryd.f3 (OpenSpec.ofChange Rows.fnExactPuzzleTextSpec) false w args) (Rows.fnExactPuzzleTextSpec.post enc Tryd.prog Tryd.f3 false true false false) := by
  refine returnsInHanded_of_change_and (C := Tryd.checked) (X := fun w _ => laidMetH Tryd.prog Rows.fnExactPuzzleTextRow.laid w) (fun _ _ _ hh h => h.of_heap hh) own started (by kernel_rfl) Tryd.func3
    (ChangeSpec.witness_shaped (enc := enc) (C := Tryd.checked) (os := os) (X := fun w _ => laidMetH Tryd.prog Rows.fnExactPuzzleTextRow.laid w) false (World.laidAll Tryd.prog os Rows.fnExactPuzzleTextRow.laid) #[.agg #[.int .i64 0, .slice none 0 0]] 8 (World.laidAll_os _ _ _)
      (World.shaped_of_ZipB (by kernel_rfl) (by kernel_rfl)) (by kernel_rfl) (by kernel_rfl) (by kernel_rfl)
      (by rw [MakeChecks.laidMetH_plain _ _ _ (by kernel_rfl)]; exact laidMet_laidAll _ (by kernel_rfl) (by kernel_rfl))) ?_
  intro W base args ds gs before hval0 hW hcnd hsz0 hL _
  have hsz : (DataW.weightsEach Tryd.prog (Tryd.f3.params.toList ++ Rows.fnExactPuzzleTextSpec.plain.varTypes Tryd.prog) (ds ++ gs)).all (· ≤ reachBytes) = true := hsz0
  have hval : ∀ (j : Nat) t v, Tryd.f3.params[j]? = some t → args[j]? = some v → Value.okWide Tryd.prog W .any base t v := hval0
  have hW' := hW
  obtain ⟨p, q, hA0, hV, rfl, hfz, hnd⟩ := hW
  have hA : DataW.TrodAll enc Tryd.prog W 0 (fun _ => true) true Tryd.f3.params.toList args.toList ds p := hA0
  rw [Tryd.params3] at hA hval hsz
  obtain ⟨v0, vs0, d0, ds0, p0, q0, hargs, rfl, rfl, h0, r0⟩ := trodAll_cons hA
  obtain ⟨rfl, rfl, rfl⟩ := trodAll_nil r0
  obtain rfl : args = #[v0] := by cases args; simp_all
  obtain ⟨rfl, rfl⟩ := trodVars_none hV
  have g0 := h0
  have lt0 := trod_lt_arg g0
  obtain ⟨⟨a0_0, l0_1⟩, hK0, hw0⟩ := opens_arg (opens_struct Tryd.underlying24 (by kernel_rfl) (opens_cons (opens_int Tryd.underlying3 (by kernel_rfl)) rfl (opens_last (opens_slice Tryd.underlying22 (by kernel_rfl) (opens_struct Tryd.underlying45 (by kernel_rfl) (opens_cons (opens_int Tryd.underlying3 (by kernel_rfl)) rfl (opens_cons (opens_int Tryd.underlying3 (by kernel_rfl)) rfl (opens_last (opens_int Tryd.underlying3 (by kernel_rfl)) rfl))) (fun x : S45 => (x.f0, x.f1, x.f2)) (fun p => ⟨p.1, p.2.1, p.2.2⟩) (fun _ => rfl))) rfl)) (fun x => x) (fun x => x) (fun _ => rfl)) h0
  have hK0' : ∃ l, v0.cells.toList = l ∧ (Kd.iso (Kd.pair (Kd.int .i64) (Kd.slice 45 k45)) (fun x => x)).K W (a0_0, l0_1) l := ⟨_, rfl, hK0⟩
  clear hK0
  obtain ⟨z0, hz0, ⟨_, _, rfl, rfl, ⟨A0_1, c0_1, rfl, hc0_1, hr0_1⟩⟩⟩ := hK0'
  obtain rfl := agg_of Tryd.underlying24 (hval 0 24 v0 rfl rfl) hz0
  clear hz0
  obtain ⟨w0_0, w0_1⟩ := hw0
  clear hA0 hval0 hsz0 hsz
  obtain ⟨k, h⟩ := Pure.FnExactPuzzleText a0_0 l0_1 w0_0 w0_1
  refine (laws_FnExactPuzzleText.calls k a0_0 _ _ l0_1 true W hr0_1 hc0_1 (tab_pow10 hL) h).mono fun e W' hh => ?_
  obtain ⟨he, bel⟩ := hh
  subst he
  exact ⟨_, rfl, _, _, _, [], _, [], hW', trodAll_mk1 (shut_bool Tryd.underlying4 _), (trodAll_cons_mk (Below.trod laidOut (by kernel_rfl) (of_decide_eq_true (by kernel_rfl)) g0 bel lt0) trodAll_mk0), rfl, bel.frame _, fun h => by cases h⟩
theorem over : Rows.fnExactPuzzleTextRow.holds Tryd.pinned (OpenSpec.ofChange Rows.fnExactPuzzleTextSpec) :=
  OpenClaim.holds_of_wide 3 Tryd.f3 rfl rfl rfl rfl rfl rfl rfl ⟨rfl, rfl, rfl, rfl, rfl⟩ rfl rfl rfl rfl rfl (by kernel_rfl) Tryd.func3 (by kernel_rfl)
    (of_decide_eq_true (by kernel_rfl)) (by unfold Func.isWrapper; first | (rw [if_pos (by decide +kernel)]; kernel_rfl) | (rw [if_neg (by decide +kernel)]; exact ⟨rfl, rfl⟩))
    (fun os started H enc _ => lifted os started H enc)
theorem proved : Rows.FnExactPuzzleTextCardSaid :=
  Claim7.holds_tied_plain_at .later [] [.data, .data, .data] true (true, "8bee4550f3aa5f5f85f8df59c83da0e9f5d402b1f2f09d1c6a6af17b2c000c70") false
    over (fun _ h => by cases h) (by kernel_rfl) (fun _ h => by cases h) fnExactPuzzleText_row_tie rfl ⟨rfl, rfl⟩ (by kernel_rfl) rfl
    (fun f fn hf hfn => by
      obtain rfl : f = 3 := Option.some.inj ((show Tryd.prog.funcNamed Rows.fnExactPuzzleTextRow.func = some 3 by kernel_rfl).symm.trans hf) |>.symm
      obtain rfl : fn = Tryd.f3 := (Option.some.inj (Tryd.func3.symm.trans hfn)).symm
      exact ⟨by kernel_rfl, fun j t ht => by
        rw [Tryd.params3] at ht
        have hm : t ∈ ([24] : List Nat) := List.mem_of_getElem? (i := j) (by simpa using ht)
        simp only [List.mem_cons, List.not_mem_nil, or_false] at hm
        rcases hm with rfl
        · exact (show Tryd.prog.wantsStandIn 24 = false by kernel_rfl)⟩)
    (by kernel_rfl)
#print axioms proved
end Go.Proofs.YtonifgfgeollaaaDoor.fnExactPuzzleText
namespace Go.Proofs.YtonifgfgeollaaaDoor
/-- The tied card, under a short name, for the claim. -/
theorem fnExactPuzzleText_holds : Rows.FnExactPuzzleTextCardSaid := fnExactPuzzleText.proved
end Go.Proofs.YtonifgfgeollaaaDoor
end
