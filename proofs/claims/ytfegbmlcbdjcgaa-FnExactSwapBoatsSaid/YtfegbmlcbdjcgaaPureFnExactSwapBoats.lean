/- The program's SwapBoats and the reference's come to the same, at every input; what is handed back is new. -/
import Derived.Test.YtfegbmlcbdjcgaaQFnExactSwapBoats
import Derived.Test.YtfegbmlcbdjcgaaX1
import Derived.Test.YtfegbmlcbdjcgaaX2
import Derived.Test.YtfegbmlcbdjcgaaX3
import Derived.Test.YtfegbmlcbdjcgaaX4
import Derived.Test.YtfegbmlcbdjcgaaX5
import Derived.Test.YtfegbmlcbdjcgaaX7
import Derived.Test.YtfegbmlcbdjcgaaLBase
import Derived.Test.YtfegbmlcbdjcgaaLInts
import Derived.Test.YtfegbmlcbdjcgaaLOrd
import Derived.Test.YtfegbmlcbdjcgaaLToInts
namespace Go.Proofs.Ytfegbmlcbdjcgaa.Pure
open Go.RowKit Go.Proofs.Ytfegbmlcbdjcgaa.X Go.Proofs.YtfegbmlcbdjcgaaW.PrintWords Go.Proofs.YtfegbmlcbdjcgaaW.PrintLast
theorem within_o (a l h : Int) : impl_within.f a l h = some (inO a l h) := by
  unfold impl_within.f inO
  by_cases c : l ≤ a <;> simp [c]
theorem areWithin_1_o (a l h : Int) : impl_areWithin_1.f a l h = some (!inO a l h) := by
  unfold impl_areWithin_1.f
  rw [within_o]
  rfl
theorem areWithin2 (a b l h : Int) : Ev (fun k => impl_areWithin.f k [a, b] l h) (inO a l h && inO b l h) := by
  unfold impl_areWithin.f slices_ContainsFunc_int__areWithin_1.f slices_IndexFunc_int__areWithin_1.f
  have h0 : rd [a, b] 0 = a := rfl
  have h1 : rd [a, b] 1 = b := rfl
  have w1 : wrap64 (0 + 1) = 1 := by decide +kernel
  have w2 : wrap64 (1 + 1) = 2 := by decide +kernel
  refine Ev.bind (a := !(inO a l h && inO b l h)) ?_ (evSome (by simp))
  cases ha : inO a l h with
  | false =>
    refine Ev.bind (a := (0 : Int)) ?_ (evSome rfl)
    refine Ev.step (fun k => by rw [slices_IndexFunc_int__areWithin_1.l0]) ?_
    refine evPos (by simp) (evPos (by omega) (evPos (by simp) (evBind0 (a := true) ?_ (evPos rfl (evSome rfl)))))
    rw [h0, areWithin_1_o, ha]
    rfl
  | true =>
    have hs0 : impl_areWithin_1.f (rd [a, b] 0) l h = some false := by rw [h0, areWithin_1_o, ha]; rfl
    cases hb : inO b l h with
    | false =>
      refine Ev.bind (a := (1 : Int)) ?_ (evSome rfl)
      refine Ev.step (fun k => by rw [slices_IndexFunc_int__areWithin_1.l0]) ?_
      refine evPos (by simp) (evPos (by omega) (evPos (by simp) (evBind0 hs0 (evNeg (by simp) ?_))))
      rw [w1]
      refine Ev.step (fun k => by rw [slices_IndexFunc_int__areWithin_1.l0]) ?_
      refine evPos (by simp) (evPos (by omega) (evPos (by simp) (evBind0 (a := true) ?_ (evPos rfl (evSome rfl)))))
      rw [h1, areWithin_1_o, hb]
      rfl
    | true =>
      have hs1 : impl_areWithin_1.f (rd [a, b] 1) l h = some false := by rw [h1, areWithin_1_o, hb]; rfl
      refine Ev.bind (a := (-1 : Int)) ?_ (evSome rfl)
      refine Ev.step (fun k => by rw [slices_IndexFunc_int__areWithin_1.l0]) ?_
      refine evPos (by simp) (evPos (by omega) (evPos (by simp) (evBind0 hs0 (evNeg (by simp) ?_))))
      rw [w1]
      refine Ev.step (fun k => by rw [slices_IndexFunc_int__areWithin_1.l0]) ?_
      refine evPos (by simp) (evPos (by omega) (evPos (by simp) (evBind0 hs1 (evNeg (by simp) ?_))))
      rw [w2]
      refine Ev.step (fun k => by rw [slices_IndexFunc_int__areWithin_1.l0]) ?_
      exact evNeg (by simp) (evSome rfl)
def placeB (l : List Int) (a : Int) : Bool := inO a 0 ((l.length : Int) - 1)
def swC (l : List Int) (a b : Int) : List Int × Bool := if ordB l = true ∧ (placeB l a && placeB l b) = true ∧ a ≠ b then ((l.set a.toNat (rd l b)).set b.toNat (rd l a), true) else ([], false)
theorem place_in (l : List Int) (a : Int) (h : placeB l a = true) : 0 ≤ a ∧ a < (l.length : Int) := by
  unfold placeB inO at h
  simp only [Bool.and_eq_true, decide_eq_true_eq] at h
  omega
theorem Swap_spec (l : List Int) (hl : l.length ≤ 1048576) (a b : Int) : Ev (fun k => spec_SwapBoats.f k l a b) (swC l a b) := by
  unfold spec_SwapBoats.f spec_ptPlace.f swC
  rw [w64 (x := (l.length : Int) - 1) (by omega) (by omega)]
  cases ho : ordB l with
  | false =>
    have hG := ptGood_ev l
    rw [ho] at hG
    refine Ev.bind (Ev.bind hG (evNeg (by simp) (evSome rfl))) (evNeg (by simp) (evSome ?_))
    rw [if_neg (by simp)]
  | true =>
    have hG := ptGood_ev l
    rw [ho] at hG
    have hP : ∀ x : Int, Ev (fun k => (spec_ptGood.f k l).bind fun t114 => (if t114 = true then ((spec_l1In.f x 0 ((l.length : Int) - 1)).bind fun t115 => (some t115)) else (some false))) (placeB l x) := fun x =>
      Ev.bind hG (evPos rfl (evBind0 (l1In_o _ _ _) (evSome rfl)))
    refine Ev.bind (hP a) ?_
    cases ha : placeB l a with
    | false => exact evNeg (by simp) (evSome (by rw [if_neg (by simp)]))
    | true =>
      refine evPos rfl (Ev.bind (hP b) ?_)
      cases hb : placeB l b with
      | false => exact evNeg (by simp) (evSome (by rw [if_neg (by simp)]))
      | true =>
        refine evPos rfl (evSplit (fun c => ?_) (fun c => ?_))
        · exact evSome (by rw [if_neg (fun h => h.2.2 c)])
        · rw [if_pos ⟨rfl, rfl, c⟩]
          obtain ⟨a1, a2⟩ := place_in l a ha
          obtain ⟨b1, b2⟩ := place_in l b hb
          refine evBind0 ?_ (evSome rfl)
          unfold spec_ptSwap.f spec_l1Own.f
          simp only [Option.bind_some, List.nil_append, List.length_nil, Nat.zero_add]
          rw [if_pos (by omega)]
          simp only [Option.bind_some]
          rw [if_pos b1, if_pos b2, if_pos a1, if_pos a2, if_pos a2, if_pos b2]
theorem Swap_impl (l : List Int) (hl : l.length ≤ 1048576) (a b : Int) : Ev (fun k => impl_SwapBoats.f k l a b) (swC l a b) := by
  unfold impl_SwapBoats.f impl_arePlaces.f swC
  rw [w64 (x := (l.length : Int) - 1) (by omega) (by omega)]
  refine Ev.bind (a := ordB l && (placeB l a && placeB l b)) (evBind0 (IsOrder_eq l (by omega)) ?_) ?_
  · cases ordB l with
    | false => exact evNeg (by simp) (evSome rfl)
    | true => exact evPos rfl (Ev.bind (areWithin2 a b _ _) (evSome rfl))
  · cases ho : ordB l && (placeB l a && placeB l b) with
    | false => exact evNeg (by simp) (evSome (by rw [if_neg (fun h => by rw [h.1, h.2.1] at ho; cases ho)]))
    | true =>
      rw [Bool.and_eq_true] at ho
      refine evPos rfl (evSplit (fun c => ?_) (fun c => ?_))
      · exact evSome (by rw [if_neg (fun h => h.2.2 c)])
      · rw [if_pos ⟨ho.1, ho.2, c⟩]
        have hab := ho.2
        rw [Bool.and_eq_true] at hab
        obtain ⟨a1, a2⟩ := place_in l a hab.1
        obtain ⟨b1, b2⟩ := place_in l b hab.2
        refine evBind0 ?_ (evSome rfl)
        unfold impl_swapped.f slices_Clone_int.f
        simp only [Option.bind_some, List.nil_append, List.length_nil, Nat.zero_add]
        rw [if_pos (by omega)]
        simp only [Option.bind_some]
        rw [if_pos b1, if_pos b2, if_pos a1, if_pos a2]
theorem swC_len (l : List Int) (a b : Int) : (swC l a b).1.length ≤ 8 := by
  unfold swC
  split
  · rename_i h
    have := (ordB_len l h.1).2
    simpa using this
  · simp
theorem FnExactSwapBoats : laws_FnExactSwapBoats.PureQ := by
  intro l a b _ _ _ _
  refine Ev.rounds ?_
  unfold laws_FnExactSwapBoats.f
  by_cases h : l.length > 1048576
  · exact evPos (by omega) (evSome rfl)
  refine evNeg (by omega) ?_
  have hP := toIntS_ev l (by omega)
  have hS := Swap_spec l (by omega) a b
  have hI := Swap_impl l (by omega) a b
  have hlen := swC_len l a b
  generalize swC l a b = s at hS hI hlen
  have hE := eqIntS_self s.1 (by omega)
  have hM := markIntS_ev s.1 (by omega)
  have hH := heldIntS_ev s.1.length (by omega)
  have hEl := eqIntS_self l (by omega)
  have hMl := markIntS_ev l (by omega)
  refine Ev.bind hP (Ev.bind hS (Ev.bind hP (Ev.bind hI (Ev.bind hE (evPos rfl ?_)))))
  refine Ev.step (fun k => by rw [laws_FnExactSwapBoats.j0]) ?_
  refine evNeg (by simp) (Ev.bind hP (Ev.bind hEl (evPos rfl ?_)))
  refine Ev.bind hMl (evNeg (by simp; omega) ?_)
  refine Ev.bind hE (evPos rfl ?_)
  refine Ev.step (fun k => by rw [laws_FnExactSwapBoats.j1]) ?_
  refine evNeg (by simp) (Ev.bind hM (Ev.bind hH (evNeg (by omega) (evPos rfl ?_))))
  refine Ev.bind hP (Ev.bind hI (Ev.bind hE (evPos rfl ?_)))
  refine Ev.step (fun k => by rw [laws_FnExactSwapBoats.j2]) ?_
  exact evNeg (by simp) (Ev.bind hH (evNeg (by omega) (evPos rfl (evSome rfl))))
end Go.Proofs.Ytfegbmlcbdjcgaa.Pure
