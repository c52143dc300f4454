/- FnExactFirstDesk answers true at every input, with no condition. -/
import Derived.Test.YtncdecmcdlfmmaaDoorP20
import Derived.Test.YtncdecmcdlfmmaaDoorP21
import Derived.Test.YtncdecmcdlfmmaaDoorRows
import Derived.WalkKit
import Derived.ProofKit
import Derived.OpenShut
import Derived.ShutString
import Derived.ChangeOld
import Derived.Below
import Derived.SizedLaws
import Derived.Test.YtncdecmcdlfmmaaDoorCards
import Derived.Test.YtncdecmcdlfmmaaDoorTie
import Derived.SevenTiedAt
import Derived.Lay
import Derived.MakeChecks
import Derived.LaidLaws
import Derived.LaidHandle
import Derived.Stop.Joined
import Derived.Stop.LaidErr
import Derived.Lib.LaidTab
import Derived.Lib.ItoaNum
section
namespace Go.Proofs.YtncdecmcdlfmmaaDoor.fnExactFirstDesk
open Go.ChangeShapes Go.WideShapes Go.ChangeAt Go.RowKit Go.Proofs.YtncdecmcdlfmmaaDoor.Open Go.Proofs.YtncdecmcdlfmmaaDoor.X Go.Proofs.YtncdecmcdlfmmaaDoorW.PrintWords
set_option linter.unusedVariables false
theorem own : ownKnob Tryd.prog.godebug = none := by kernel_rfl
theorem laidOut : laidOutB Tryd.prog = true := by kernel_rfl
theorem tab_errRange {W : World} (h : laidMetH Tryd.prog Rows.fnExactFirstDeskRow.laid W) : Tab_errRange W := by
  rw [MakeChecks.laidMetH_plain _ _ _ (by kernel_rfl)] at h
  have h1 : laidMet Tryd.prog (Rows.fnExactFirstDeskRow.laid.drop 1) W := (show laidMet Tryd.prog (Rows.fnExactFirstDeskRow.laid.getD 0 ("", .nil) :: Rows.fnExactFirstDeskRow.laid.drop 1) W from h).tail
  have h2 : laidMet Tryd.prog (Rows.fnExactFirstDeskRow.laid.drop 2) W := (show laidMet Tryd.prog (Rows.fnExactFirstDeskRow.laid.getD 1 ("", .nil) :: Rows.fnExactFirstDeskRow.laid.drop 2) W from h1).tail
  have h3 : laidMet Tryd.prog (Rows.fnExactFirstDeskRow.laid.drop 3) W := (show laidMet Tryd.prog (Rows.fnExactFirstDeskRow.laid.getD 2 ("", .nil) :: Rows.fnExactFirstDeskRow.laid.drop 3) W from h2).tail
  obtain ⟨_, _, hv, _⟩ := laid_sentinel (n := "strconv.ErrRange") (nm := "*errors.errorString") (g := 4) (ti := 109) (tp := 171) (te := 173) (ts := 9) (show laidMet Tryd.prog (("strconv.ErrRange", .iface "*errors.errorString" (.ptr (.agg [.lit (.string [118, 97, 108, 117, 101, 32, 111, 117, 116, 32, 111, 102, 32, 114, 97, 110, 103, 101])]))) :: Rows.fnExactFirstDeskRow.laid.drop 4) W from h3) (by kernel_rfl) (by kernel_rfl) Tryd.underlying109 (fun u hu => typeName_ptr_named (nm := "errors.errorString") (by rw [(show "*" ++ "errors.errorString" = "*errors.errorString" by decide)]; kernel_rfl) (by kernel_rfl) (by decide) u (by rw [(show "*" ++ "errors.errorString" = "*errors.errorString" by decide)]; exact hu)) Tryd.underlying171 Tryd.underlying173 rfl rfl Tryd.underlying9 (by kernel_rfl) (by kernel_rfl)
  exact ⟨_, _, hv⟩
theorem tab_errSyntax {W : World} (h : laidMetH Tryd.prog Rows.fnExactFirstDeskRow.laid W) : Tab_errSyntax W := by
  rw [MakeChecks.laidMetH_plain _ _ _ (by kernel_rfl)] at h
  have h1 : laidMet Tryd.prog (Rows.fnExactFirstDeskRow.laid.drop 1) W := (show laidMet Tryd.prog (Rows.fnExactFirstDeskRow.laid.getD 0 ("", .nil) :: Rows.fnExactFirstDeskRow.laid.drop 1) W from h).tail
  have h2 : laidMet Tryd.prog (Rows.fnExactFirstDeskRow.laid.drop 2) W := (show laidMet Tryd.prog (Rows.fnExactFirstDeskRow.laid.getD 1 ("", .nil) :: Rows.fnExactFirstDeskRow.laid.drop 2) W from h1).tail
  have h3 : laidMet Tryd.prog (Rows.fnExactFirstDeskRow.laid.drop 3) W := (show laidMet Tryd.prog (Rows.fnExactFirstDeskRow.laid.getD 2 ("", .nil) :: Rows.fnExactFirstDeskRow.laid.drop 3) W from h2).tail
  have h4 : laidMet Tryd.prog (Rows.fnExactFirstDeskRow.laid.drop 4) W := (show laidMet Tryd.prog (Rows.fnExactFirstDeskRow.laid.getD 3 ("", .nil) :: Rows.fnExactFirstDeskRow.laid.drop 4) W from h3).tail
  obtain ⟨_, _, hv, _⟩ := laid_sentinel (n := "strconv.ErrSyntax") (nm := "*errors.errorString") (g := 3) (ti := 109) (tp := 171) (te := 173) (ts := 9) (show laidMet Tryd.prog (("strconv.ErrSyntax", .iface "*errors.errorString" (.ptr (.agg [.lit (.string [105, 110, 118, 97, 108, 105, 100, 32, 115, 121, 110, 116, 97, 120])]))) :: Rows.fnExactFirstDeskRow.laid.drop 5) W from h4) (by kernel_rfl) (by kernel_rfl) Tryd.underlying109 (fun u hu => typeName_ptr_named (nm := "errors.errorString") (by rw [(show "*" ++ "errors.errorString" = "*errors.errorString" by decide)]; kernel_rfl) (by kernel_rfl) (by decide) u (by rw [(show "*" ++ "errors.errorString" = "*errors.errorString" by decide)]; exact hu)) Tryd.underlying171 Tryd.underlying173 rfl rfl Tryd.underlying9 (by kernel_rfl) (by kernel_rfl)
  exact ⟨_, _, hv⟩
theorem tab_pow10 {W : World} (h : laidMetH Tryd.prog Rows.fnExactFirstDeskRow.laid W) : Tab_pow10 W := by
  rw [MakeChecks.laidMetH_plain _ _ _ (by kernel_rfl)] at h
  have h1 : laidMet Tryd.prog (Rows.fnExactFirstDeskRow.laid.drop 1) W := (show laidMet Tryd.prog (Rows.fnExactFirstDeskRow.laid.getD 0 ("", .nil) :: Rows.fnExactFirstDeskRow.laid.drop 1) W from h).tail
  have h2 : laidMet Tryd.prog (Rows.fnExactFirstDeskRow.laid.drop 2) W := (show laidMet Tryd.prog (Rows.fnExactFirstDeskRow.laid.getD 1 ("", .nil) :: Rows.fnExactFirstDeskRow.laid.drop 2) W from h1).tail
  exact Lib.tabIs_of_head (g := 5) (t := 168) (e := 128) (n := 20) (rest := Rows.fnExactFirstDeskRow.laid.drop 3) (by kernel_rfl) (by kernel_rfl) Tryd.underlying168 Tryd.underlying128 (by kernel_rfl) (by kernel_rfl) (by
    have e : (Rows.laid_internal_strconv_uint64pow10 : DataW Unit) = Lib.tabData .u64 Lib.pow10Tab := by kernel_rfl
    rw [← e]
    exact h2)
set_option maxRecDepth 100000 in
set_option maxHeartbeats 2000000 in
theorem lifted (os : Os) (started : os.Started) (H : Type) (enc : TypeId × Value → H) :
    ReturnsInHanded {} Tryd.checked os 4 .any (fun w args => (Rows.fnExactFirstDeskSpec.pre enc Tryd.prog Tryd.f4 Rows.fnExactFirstDeskRow.domain false w args ∧ laidMetH Tryd.prog Rows.fnExactFirstDeskRow.laid w) ∧ sizedMet enc Tryd.prog Tryd.f4 (OpenSpec.ofChange Rows.fnExactFirstDeskSpec) false w args) (Rows.fnExactFirstDeskSpec.post enc Tryd.prog Tryd.f4 false true false false) := by
  refine returnsInHanded_of_change_and (C := Tryd.checked) (X := fun w _ => laidMetH Tryd.prog Rows.fnExactFirstDeskRow.laid w) (fun _ _ _ hh h => h.of_heap hh) own started (by kernel_rfl) Tryd.func4
    (ChangeSpec.witness_shaped (enc := enc) (C := Tryd.checked) (os := os) (X := fun w _ => laidMetH Tryd.prog Rows.fnExactFirstDeskRow.laid w) false (World.laidAll Tryd.prog os Rows.fnExactFirstDeskRow.laid) #[] 8 (World.laidAll_os _ _ _)
      (World.shaped_of_ZipB (by kernel_rfl) (by kernel_rfl)) (by kernel_rfl) (by kernel_rfl) (by kernel_rfl)
      (by rw [MakeChecks.laidMetH_plain _ _ _ (by kernel_rfl)]; exact laidMet_laidAll _ (by kernel_rfl) (by kernel_rfl))) ?_
  intro W base args ds gs before hval0 hW hcnd hsz0 hL _
  have hsz : (DataW.weightsEach Tryd.prog (Tryd.f4.params.toList ++ Rows.fnExactFirstDeskSpec.plain.varTypes Tryd.prog) (ds ++ gs)).all (· ≤ reachBytes) = true := hsz0
  have hval : ∀ (j : Nat) t v, Tryd.f4.params[j]? = some t → args[j]? = some v → Value.okWide Tryd.prog W .any base t v := hval0
  have hW' := hW
  obtain ⟨p, q, hA0, hV, rfl, hfz, hnd⟩ := hW
  have hA : DataW.TrodAll enc Tryd.prog W 0 (fun _ => true) true Tryd.f4.params.toList args.toList ds p := hA0
  rw [Tryd.params4] at hA hval hsz
  obtain ⟨rfl, rfl, rfl⟩ := trodAll_none hA
  obtain ⟨rfl, rfl⟩ := trodVars_none hV
  clear hA0 hval0 hsz0 hsz
  obtain ⟨k, h⟩ := Pure.FnExactFirstDesk  
  refine (laws_FnExactFirstDesk.calls k  true W  (tab_errRange hL) (tab_errSyntax hL) (tab_pow10 hL) h).mono fun e W' hh => ?_
  obtain ⟨he, bel⟩ := hh
  subst he
  exact ⟨_, rfl, _, _, _, [], _, [], hW', trodAll_mk1 (shut_bool Tryd.underlying4 _), trodAll_mk0, rfl, bel.frame _, fun h => by cases h⟩
theorem over : Rows.fnExactFirstDeskRow.holds Tryd.pinned (OpenSpec.ofChange Rows.fnExactFirstDeskSpec) :=
  OpenClaim.holds_of_wide 4 Tryd.f4 rfl rfl rfl rfl rfl rfl rfl ⟨rfl, rfl, rfl, rfl, rfl⟩ rfl rfl rfl rfl rfl (by kernel_rfl) Tryd.func4 (by kernel_rfl)
    (of_decide_eq_true (by kernel_rfl)) (by unfold Func.isWrapper; first | (rw [if_pos (by decide +kernel)]; kernel_rfl) | (rw [if_neg (by decide +kernel)]; exact ⟨rfl, rfl⟩))
    (fun os started H enc _ => lifted os started H enc)
theorem proved : Rows.FnExactFirstDeskCardSaid :=
  Claim7.holds_tied_plain_at .later [] [.data, .data, .data, .sentinel, .sentinel] true (true, "d096009ed84eb1348e644cd275abc752e9e154cbb440fa89232054dff7d4a1fc") true
    over (fun _ h => by cases h) (by kernel_rfl) (fun _ h => by cases h) fnExactFirstDesk_row_tie rfl ⟨rfl, rfl⟩ (by kernel_rfl) rfl
    (fun f fn hf hfn => by
      obtain rfl : f = 4 := Option.some.inj ((show Tryd.prog.funcNamed Rows.fnExactFirstDeskRow.func = some 4 by kernel_rfl).symm.trans hf) |>.symm
      obtain rfl : fn = Tryd.f4 := (Option.some.inj (Tryd.func4.symm.trans hfn)).symm
      exact ⟨by kernel_rfl, fun j t ht => by
        rw [Tryd.params4] at ht
        simp at ht⟩)
    (by kernel_rfl)
#print axioms proved
end Go.Proofs.YtncdecmcdlfmmaaDoor.fnExactFirstDesk
namespace Go.Proofs.YtncdecmcdlfmmaaDoor
/-- The tied card, under a short name, for the claim. -/
theorem fnExactFirstDesk_holds : Rows.FnExactFirstDeskCardSaid := fnExactFirstDesk.proved
end Go.Proofs.YtncdecmcdlfmmaaDoor
end
