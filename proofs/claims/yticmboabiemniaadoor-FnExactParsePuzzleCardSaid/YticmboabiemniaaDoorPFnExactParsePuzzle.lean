/- FnExactParsePuzzle answers true at every input, with no condition. -/
import Derived.Test.YticmboabiemniaaDoorP19
import Derived.Test.YticmboabiemniaaDoorP20
import Derived.Test.YticmboabiemniaaDoorP21
import Derived.Test.YticmboabiemniaaDoorRows
import Derived.WalkKit
import Derived.ProofKit
import Derived.OpenShut
import Derived.ShutString
import Derived.ChangeOld
import Derived.Below
import Derived.SizedLaws
import Derived.Test.YticmboabiemniaaDoorCards
import Derived.Test.YticmboabiemniaaDoorTie
import Derived.SevenTiedAt
import Derived.Lay
import Derived.MakeChecks
import Derived.LaidLaws
import Derived.LaidHandle
import Derived.Stop.Joined
import Derived.Stop.LaidErr
import Derived.Lib.LaidTab
import Derived.Lib.ItoaNum
section
namespace Go.Proofs.YticmboabiemniaaDoor.fnExactParsePuzzle
open Go.ChangeShapes Go.WideShapes Go.ChangeAt Go.RowKit Go.Proofs.YticmboabiemniaaDoor.Open Go.Proofs.YticmboabiemniaaDoor.X Go.Proofs.YticmboabiemniaaDoorW.PrintWords
set_option linter.unusedVariables false
theorem own : ownKnob Tryd.prog.godebug = none := by kernel_rfl
theorem laidOut : laidOutB Tryd.prog = true := by kernel_rfl
theorem tab_errRange {W : World} (h : laidMetH Tryd.prog Rows.fnExactParsePuzzleRow.laid W) : Tab_errRange W := by
  rw [MakeChecks.laidMetH_plain _ _ _ (by kernel_rfl)] at h
  have h1 : laidMet Tryd.prog (Rows.fnExactParsePuzzleRow.laid.drop 1) W := (show laidMet Tryd.prog (Rows.fnExactParsePuzzleRow.laid.getD 0 ("", .nil) :: Rows.fnExactParsePuzzleRow.laid.drop 1) W from h).tail
  have h2 : laidMet Tryd.prog (Rows.fnExactParsePuzzleRow.laid.drop 2) W := (show laidMet Tryd.prog (Rows.fnExactParsePuzzleRow.laid.getD 1 ("", .nil) :: Rows.fnExactParsePuzzleRow.laid.drop 2) W from h1).tail
  have h3 : laidMet Tryd.prog (Rows.fnExactParsePuzzleRow.laid.drop 3) W := (show laidMet Tryd.prog (Rows.fnExactParsePuzzleRow.laid.getD 2 ("", .nil) :: Rows.fnExactParsePuzzleRow.laid.drop 3) W from h2).tail
  obtain ⟨_, _, hv, _⟩ := laid_sentinel (n := "strconv.ErrRange") (nm := "*errors.errorString") (g := 2) (ti := 93) (tp := 155) (te := 157) (ts := 9) (show laidMet Tryd.prog (("strconv.ErrRange", .iface "*errors.errorString" (.ptr (.agg [.lit (.string [118, 97, 108, 117, 101, 32, 111, 117, 116, 32, 111, 102, 32, 114, 97, 110, 103, 101])]))) :: Rows.fnExactParsePuzzleRow.laid.drop 4) W from h3) (by kernel_rfl) (by kernel_rfl) Tryd.underlying93 (fun u hu => typeName_ptr_named (nm := "errors.errorString") (by rw [(show "*" ++ "errors.errorString" = "*errors.errorString" by decide)]; kernel_rfl) (by kernel_rfl) (by decide) u (by rw [(show "*" ++ "errors.errorString" = "*errors.errorString" by decide)]; exact hu)) Tryd.underlying155 Tryd.underlying157 rfl rfl Tryd.underlying9 (by kernel_rfl) (by kernel_rfl)
  exact ⟨_, _, hv⟩
theorem tab_errSyntax {W : World} (h : laidMetH Tryd.prog Rows.fnExactParsePuzzleRow.laid W) : Tab_errSyntax W := by
  rw [MakeChecks.laidMetH_plain _ _ _ (by kernel_rfl)] at h
  have h1 : laidMet Tryd.prog (Rows.fnExactParsePuzzleRow.laid.drop 1) W := (show laidMet Tryd.prog (Rows.fnExactParsePuzzleRow.laid.getD 0 ("", .nil) :: Rows.fnExactParsePuzzleRow.laid.drop 1) W from h).tail
  have h2 : laidMet Tryd.prog (Rows.fnExactParsePuzzleRow.laid.drop 2) W := (show laidMet Tryd.prog (Rows.fnExactParsePuzzleRow.laid.getD 1 ("", .nil) :: Rows.fnExactParsePuzzleRow.laid.drop 2) W from h1).tail
  have h3 : laidMet Tryd.prog (Rows.fnExactParsePuzzleRow.laid.drop 3) W := (show laidMet Tryd.prog (Rows.fnExactParsePuzzleRow.laid.getD 2 ("", .nil) :: Rows.fnExactParsePuzzleRow.laid.drop 3) W from h2).tail
  have h4 : laidMet Tryd.prog (Rows.fnExactParsePuzzleRow.laid.drop 4) W := (show laidMet Tryd.prog (Rows.fnExactParsePuzzleRow.laid.getD 3 ("", .nil) :: Rows.fnExactParsePuzzleRow.laid.drop 4) W from h3).tail
  obtain ⟨_, _, hv, _⟩ := laid_sentinel (n := "strconv.ErrSyntax") (nm := "*errors.errorString") (g := 1) (ti := 93) (tp := 155) (te := 157) (ts := 9) (show laidMet Tryd.prog (("strconv.ErrSyntax", .iface "*errors.errorString" (.ptr (.agg [.lit (.string [105, 110, 118, 97, 108, 105, 100, 32, 115, 121, 110, 116, 97, 120])]))) :: Rows.fnExactParsePuzzleRow.laid.drop 5) W from h4) (by kernel_rfl) (by kernel_rfl) Tryd.underlying93 (fun u hu => typeName_ptr_named (nm := "errors.errorString") (by rw [(show "*" ++ "errors.errorString" = "*errors.errorString" by decide)]; kernel_rfl) (by kernel_rfl) (by decide) u (by rw [(show "*" ++ "errors.errorString" = "*errors.errorString" by decide)]; exact hu)) Tryd.underlying155 Tryd.underlying157 rfl rfl Tryd.underlying9 (by kernel_rfl) (by kernel_rfl)
  exact ⟨_, _, hv⟩
theorem tab_pow10 {W : World} (h : laidMetH Tryd.prog Rows.fnExactParsePuzzleRow.laid W) : Tab_pow10 W := by
  rw [MakeChecks.laidMetH_plain _ _ _ (by kernel_rfl)] at h
  have h1 : laidMet Tryd.prog (Rows.fnExactParsePuzzleRow.laid.drop 1) W := (show laidMet Tryd.prog (Rows.fnExactParsePuzzleRow.laid.getD 0 ("", .nil) :: Rows.fnExactParsePuzzleRow.laid.drop 1) W from h).tail
  have h2 : laidMet Tryd.prog (Rows.fnExactParsePuzzleRow.laid.drop 2) W := (show laidMet Tryd.prog (Rows.fnExactParsePuzzleRow.laid.getD 1 ("", .nil) :: Rows.fnExactParsePuzzleRow.laid.drop 2) W from h1).tail
  exact Lib.tabIs_of_head (g := 3) (t := 147) (e := 123) (n := 20) (rest := Rows.fnExactParsePuzzleRow.laid.drop 3) (by kernel_rfl) (by kernel_rfl) Tryd.underlying147 Tryd.underlying123 (by kernel_rfl) (by kernel_rfl) (by
    have e : (Rows.laid_internal_strconv_uint64pow10 : DataW Unit) = Lib.tabData .u64 Lib.pow10Tab := by kernel_rfl
    rw [← e]
    exact h2)
set_option maxRecDepth 100000 in
set_option maxHeartbeats 2000000 in
theorem lifted (os : Os) (started : os.Started) (H : Type) (enc : TypeId × Value → H) :
    ReturnsInHanded {} Tryd.checked os 5 .any (fun w args => (Rows.fnExactParsePuzzleSpec.pre enc Tryd.prog Tryd.f5 Rows.fnExactParsePuzzleRow.domain false w args ∧ laidMetH Tryd.prog Rows.fnExactParsePuzzleRow.laid w) ∧ sizedMet enc Tryd.prog Tryd.f5 (OpenSpec.ofChange Rows.fnExactParsePuzzleSpec) false w args) (Rows.fnExactParsePuzzleSpec.post enc Tryd.prog Tryd.f5 false true false false) := by
  refine returnsInHanded_of_change_and (C := Tryd.checked) (X := fun w _ => laidMetH Tryd.prog Rows.fnExactParsePuzzleRow.laid w) (fun _ _ _ hh h => h.of_heap hh) own started (by kernel_rfl) Tryd.func5
    (ChangeSpec.witness_shaped (enc := enc) (C := Tryd.checked) (os := os) (X := fun w _ => laidMetH Tryd.prog Rows.fnExactParsePuzzleRow.laid w) false (World.laidAll Tryd.prog os Rows.fnExactParsePuzzleRow.laid) #[.string ByteArray.empty] 8 (World.laidAll_os _ _ _)
      (World.shaped_of_ZipB (by kernel_rfl) (by kernel_rfl)) (by kernel_rfl) (by kernel_rfl) (by kernel_rfl)
      (by rw [MakeChecks.laidMetH_plain _ _ _ (by kernel_rfl)]; exact laidMet_laidAll _ (by kernel_rfl) (by kernel_rfl))) ?_
  intro W base args ds gs before hval0 hW hcnd hsz0 hL _
  have hsz : (DataW.weightsEach Tryd.prog (Tryd.f5.params.toList ++ Rows.fnExactParsePuzzleSpec.plain.varTypes Tryd.prog) (ds ++ gs)).all (· ≤ reachBytes) = true := hsz0
  have hval : ∀ (j : Nat) t v, Tryd.f5.params[j]? = some t → args[j]? = some v → Value.okWide Tryd.prog W .any base t v := hval0
  have hW' := hW
  obtain ⟨p, q, hA0, hV, rfl, hfz, hnd⟩ := hW
  have hA : DataW.TrodAll enc Tryd.prog W 0 (fun _ => true) true Tryd.f5.params.toList args.toList ds p := hA0
  rw [Tryd.params5] at hA hval hsz
  obtain ⟨v0, vs0, d0, ds0, p0, q0, hargs, rfl, rfl, h0, r0⟩ := trodAll_cons hA
  obtain ⟨rfl, rfl, rfl⟩ := trodAll_nil r0
  obtain rfl : args = #[v0] := by cases args; simp_all
  obtain ⟨rfl, rfl⟩ := trodVars_none hV
  have g0 := h0
  have lt0 := trod_lt_arg g0
  obtain ⟨s0_, rfl, rfl, rfl, _⟩ := Go.ChangeMaps.open_string Tryd.underlying9 (hval 0 9 v0 rfl rfl) h0
  have y0 : s0_.size ≤ 140737488351232 := by
    have z := sized_string hsz (j := 0) (t := 9) rfl rfl
    rw [Array.length_toList] at z
    exact z
  obtain ⟨a0, e0, w0⟩ := opens_arg (opens_string Tryd.underlying9 (by kernel_rfl)) h0
  obtain rfl : a0 = s0_ := by simpa [Value.cells] using (show (Value.string s0_).cells.toList = [.string a0] from e0).symm
  clear e0
  clear hA0 hval0 hsz0 hsz
  obtain ⟨k, h⟩ := Pure.FnExactParsePuzzle a0 y0
  refine (laws_FnExactParsePuzzle.calls k a0 true W  (tab_errRange hL) (tab_errSyntax hL) (tab_pow10 hL) h).mono fun e W' hh => ?_
  obtain ⟨he, bel⟩ := hh
  subst he
  exact ⟨_, rfl, _, _, _, [], _, [], hW', trodAll_mk1 (shut_bool Tryd.underlying4 _), (trodAll_cons_mk (Below.trod laidOut (by kernel_rfl) (of_decide_eq_true (by kernel_rfl)) g0 bel lt0) trodAll_mk0), rfl, bel.frame _, fun h => by cases h⟩
theorem over : Rows.fnExactParsePuzzleRow.holds Tryd.pinned (OpenSpec.ofChange Rows.fnExactParsePuzzleSpec) :=
  OpenClaim.holds_of_wide 5 Tryd.f5 rfl rfl rfl rfl rfl rfl rfl ⟨rfl, rfl, rfl, rfl, rfl⟩ rfl rfl rfl rfl rfl (by kernel_rfl) Tryd.func5 (by kernel_rfl)
    (of_decide_eq_true (by kernel_rfl)) (by unfold Func.isWrapper; first | (rw [if_pos (by decide +kernel)]; kernel_rfl) | (rw [if_neg (by decide +kernel)]; exact ⟨rfl, rfl⟩))
    (fun os started H enc _ => lifted os started H enc)
theorem proved : Rows.FnExactParsePuzzleCardSaid :=
  Claim7.holds_tied_plain_at .later [] [.data, .data, .data, .sentinel, .sentinel] true (true, "a0f9969808958609d4dcbc1b6cb19f0f751c02739fc0dc043d9040cd902cf893") true
    over (fun _ h => by cases h) (by kernel_rfl) (fun _ h => by cases h) fnExactParsePuzzle_row_tie rfl ⟨rfl, rfl⟩ (by kernel_rfl) rfl
    (fun f fn hf hfn => by
      obtain rfl : f = 5 := Option.some.inj ((show Tryd.prog.funcNamed Rows.fnExactParsePuzzleRow.func = some 5 by kernel_rfl).symm.trans hf) |>.symm
      obtain rfl : fn = Tryd.f5 := (Option.some.inj (Tryd.func5.symm.trans hfn)).symm
      exact ⟨by kernel_rfl, fun j t ht => by
        rw [Tryd.params5] at ht
        have hm : t ∈ ([9] : List Nat) := List.mem_of_getElem? (i := j) (by simpa using ht)
        simp only [List.mem_cons, List.not_mem_nil, or_false] at hm
        rcases hm with rfl
        · exact (show Tryd.prog.wantsStandIn 9 = false by kernel_rfl)⟩)
    (by kernel_rfl)
#print axioms proved
end Go.Proofs.YticmboabiemniaaDoor.fnExactParsePuzzle
namespace Go.Proofs.YticmboabiemniaaDoor
/-- The tied card, under a short name, for the claim. -/
theorem fnExactParsePuzzle_holds : Rows.FnExactParsePuzzleCardSaid := fnExactParsePuzzle.proved
end Go.Proofs.YticmboabiemniaaDoor
end
