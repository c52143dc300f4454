/- The program's MoveBoat and the reference's come to the same, at every input; what is handed back is new. -/
import Derived.Test.YtfegbmlcbdjcgaaQFnExactMoveBoat
import Derived.Test.YtfegbmlcbdjcgaaX1
import Derived.Test.YtfegbmlcbdjcgaaX2
import Derived.Test.YtfegbmlcbdjcgaaX3
import Derived.Test.YtfegbmlcbdjcgaaX4
import Derived.Test.YtfegbmlcbdjcgaaEMoveBoat
import Derived.Test.YtfegbmlcbdjcgaaX6
import Derived.Test.YtfegbmlcbdjcgaaLBase
import Derived.Test.YtfegbmlcbdjcgaaLIntEq
import Derived.Test.YtfegbmlcbdjcgaaLInts
import Derived.Test.YtfegbmlcbdjcgaaLOrd
import Derived.Test.YtfegbmlcbdjcgaaLToInts
namespace Go.Proofs.Ytfegbmlcbdjcgaa.Pure
open Go.RowKit Go.Proofs.Ytfegbmlcbdjcgaa.X Go.Proofs.YtfegbmlcbdjcgaaW.PrintWords Go.Proofs.YtfegbmlcbdjcgaaW.PrintLast
theorem within_o (a l h : Int) : impl_within.f a l h = some (inO a l h) := by
  unfold impl_within.f inO
  by_cases c : l ≤ a <;> simp [c]
theorem areWithin_1_o (a l h : Int) : impl_areWithin_1.f a l h = some (!inO a l h) := by
  unfold impl_areWithin_1.f
  rw [within_o]
  rfl
theorem areWithin2 (a b l h : Int) : Ev (fun k => impl_areWithin.f k [a, b] l h) (inO a l h && inO b l h) := by
  unfold impl_areWithin.f slices_ContainsFunc_int__areWithin_1.f slices_IndexFunc_int__areWithin_1.f
  have h0 : rd [a, b] 0 = a := rfl
  have h1 : rd [a, b] 1 = b := rfl
  have w1 : wrap64 (0 + 1) = 1 := by decide +kernel
  have w2 : wrap64 (1 + 1) = 2 := by decide +kernel
  refine Ev.bind (a := !(inO a l h && inO b l h)) ?_ (evSome (by simp))
  cases ha : inO a l h with
  | false =>
    refine Ev.bind (a := (0 : Int)) ?_ (evSome rfl)
    refine Ev.step (fun k => by rw [slices_IndexFunc_int__areWithin_1.l0]) ?_
    refine evPos (by simp) (evPos (by omega) (evPos (by simp) (evBind0 (a := true) ?_ (evPos rfl (evSome rfl)))))
    rw [h0, areWithin_1_o, ha]
    rfl
  | true =>
    have hs0 : impl_areWithin_1.f (rd [a, b] 0) l h = some false := by rw [h0, areWithin_1_o, ha]; rfl
    cases hb : inO b l h with
    | false =>
      refine Ev.bind (a := (1 : Int)) ?_ (evSome rfl)
      refine Ev.step (fun k => by rw [slices_IndexFunc_int__areWithin_1.l0]) ?_
      refine evPos (by simp) (evPos (by omega) (evPos (by simp) (evBind0 hs0 (evNeg (by simp) ?_))))
      rw [w1]
      refine Ev.step (fun k => by rw [slices_IndexFunc_int__areWithin_1.l0]) ?_
      refine evPos (by simp) (evPos (by omega) (evPos (by simp) (evBind0 (a := true) ?_ (evPos rfl (evSome rfl)))))
      rw [h1, areWithin_1_o, hb]
      rfl
    | true =>
      have hs1 : impl_areWithin_1.f (rd [a, b] 1) l h = some false := by rw [h1, areWithin_1_o, hb]; rfl
      refine Ev.bind (a := (-1 : Int)) ?_ (evSome rfl)
      refine Ev.step (fun k => by rw [slices_IndexFunc_int__areWithin_1.l0]) ?_
      refine evPos (by simp) (evPos (by omega) (evPos (by simp) (evBind0 hs0 (evNeg (by simp) ?_))))
      rw [w1]
      refine Ev.step (fun k => by rw [slices_IndexFunc_int__areWithin_1.l0]) ?_
      refine evPos (by simp) (evPos (by omega) (evPos (by simp) (evBind0 hs1 (evNeg (by simp) ?_))))
      rw [w2]
      refine Ev.step (fun k => by rw [slices_IndexFunc_int__areWithin_1.l0]) ?_
      exact evNeg (by simp) (evSome rfl)
def placeB (l : List Int) (a : Int) : Bool := inO a 0 ((l.length : Int) - 1)
theorem place_in (l : List Int) (a : Int) (h : placeB l a = true) : 0 ≤ a ∧ a < (l.length : Int) := by
  unfold placeB inO at h
  simp only [Bool.and_eq_true, decide_eq_true_eq] at h
  omega
def mvC (l : List Int) (a b : Int) : List Int × Bool := if ordB l = true ∧ (placeB l a && placeB l b) = true then (mvd l a.toNat b.toNat, true) else ([], false)
theorem own_some (m : List Int) (h : m.length ≤ 1048576) : spec_l1Own.f m = some m := by
  unfold spec_l1Own.f
  simp only [Option.bind_some, List.nil_append, List.length_nil, Nat.zero_add]
  exact if_pos (by omega)
theorem mv_wrap (i : Nat) (h : i ≤ 1048576) : wrap64 ((i : Int) + 1) = ((i + 1 : Nat) : Int) := (w64 (by omega) (by omega)).trans (by omega)
theorem Move_j0 (l : List Int) (hl : l.length ≤ 1048576) (i j : Nat) (hi : i < l.length) (hj : j < l.length) (k : Nat) : spec_MoveBoat.j0 (k + 1) l i j false = some (mvd l i j, true) := by
  have he : l.take i ++ l.drop (i + 1) = l.eraseIdx i := by rw [List.eraseIdx_eq_take_drop_succ]
  have hel : (l.eraseIdx i).length = l.length - 1 := by rw [List.length_eraseIdx_of_lt hi]
  have b1 : (0 : Int) ≤ (i : Int) := by omega
  have b2 : (i : Int) ≤ (l.length : Int) := by omega
  have b3 : (l.take i).length ≤ 1048576 := by rw [List.length_take]; omega
  have b4 : (0 : Int) ≤ ((i + 1 : Nat) : Int) := by omega
  have b5 : ((i + 1 : Nat) : Int) ≤ (l.length : Int) := by omega
  have b6 : (l.take i).length + (l.drop (i + 1)).length < 17592186044416 := by rw [List.length_take, List.length_drop]; omega
  have b7 : (0 : Int) ≤ (j : Int) := by omega
  have b8 : (j : Int) ≤ ((l.eraseIdx i).length : Int) := by omega
  have b9 : ((l.eraseIdx i).take j).length ≤ 1048576 := by rw [List.length_take]; omega
  have b10 : (i : Int) < (l.length : Int) := by omega
  have b11 : ((l.eraseIdx i).take j).length + [rd l (i : Int)].length < 17592186044416 := by rw [List.length_take]; show _ + 1 < _; omega
  have b12 : ((l.eraseIdx i).take j ++ [rd l (i : Int)]).length + ((l.eraseIdx i).drop j).length < 17592186044416 := by rw [List.length_append, List.length_take, List.length_drop]; show _ + 1 + _ < _; omega
  have hr : rd l (i : Int) = l.getD i 0 := by unfold rd; rw [Int.toNat_natCast]
  have hfin : (l.eraseIdx i).take j ++ [rd l (i : Int)] ++ (l.eraseIdx i).drop j = mvd l i j := by
    unfold mvd
    rw [hr, List.append_assoc]
    rfl
  rw [spec_MoveBoat.j0, if_neg Bool.false_ne_true, if_pos b1, if_pos b2, Int.toNat_natCast, own_some _ b3, Option.bind_some, mv_wrap i (by omega), if_pos b4, if_pos b5, Int.toNat_natCast, if_pos b6, he, Option.bind_some, if_pos b7, if_pos b8, Int.toNat_natCast, own_some _ b9, Option.bind_some, if_pos b10, Option.bind_some, if_pos b11, Option.bind_some, Option.bind_some, if_pos b12, hfin]
theorem Move_spec (l : List Int) (hl : l.length ≤ 1048576) (a b : Int) : Ev (fun k => spec_MoveBoat.f k l a b) (mvC l a b) := by
  unfold spec_MoveBoat.f spec_ptPlace.f mvC
  rw [w64 (x := (l.length : Int) - 1) (by omega) (by omega)]
  have hno : ∀ x y : Int, Ev (fun k => spec_MoveBoat.j0 k l x y true) ([], false) := fun x y => Ev.step (fun k => by rw [spec_MoveBoat.j0]) (evPos rfl (evSome rfl))
  cases ho : ordB l with
  | false =>
    have hG := ptGood_ev l
    rw [ho] at hG
    refine Ev.bind (Ev.bind hG (evNeg (by simp) (evSome rfl))) (evNeg (by simp) ?_)
    rw [if_neg (by simp)]
    exact hno _ _
  | true =>
    have hG := ptGood_ev l
    rw [ho] at hG
    have hP : ∀ x : Int, Ev (fun k => (spec_ptGood.f k l).bind fun t114 => (if t114 = true then ((spec_l1In.f x 0 ((l.length : Int) - 1)).bind fun t115 => (some t115)) else (some false))) (placeB l x) := fun x =>
      Ev.bind hG (evPos rfl (evBind0 (l1In_o _ _ _) (evSome rfl)))
    refine Ev.bind (hP a) ?_
    cases ha : placeB l a with
    | false =>
      refine evNeg (by simp) ?_
      rw [if_neg (by simp)]
      exact hno _ _
    | true =>
      refine evPos rfl (Ev.bind (hP b) ?_)
      cases hb : placeB l b with
      | false =>
        rw [if_neg (by simp)]
        exact hno _ _
      | true =>
        obtain ⟨a1, a2⟩ := place_in l a ha
        obtain ⟨b1, b2⟩ := place_in l b hb
        obtain ⟨i, rfl⟩ : ∃ i : Nat, a = (i : Int) := ⟨a.toNat, by omega⟩
        obtain ⟨j, rfl⟩ : ∃ j : Nat, b = (j : Int) := ⟨b.toNat, by omega⟩
        rw [if_pos ⟨rfl, rfl⟩, Int.toNat_natCast, Int.toNat_natCast]
        exact Ev.step (fun k => Move_j0 l hl i j (by omega) (by omega) k) (evSome rfl)
theorem Move_impl (l : List Int) (hl : l.length ≤ 1048576) (a b : Int) : Ev (fun k => impl_MoveBoat.f k l a b) (mvC l a b) := by
  unfold impl_MoveBoat.f impl_arePlaces.f mvC
  rw [w64 (x := (l.length : Int) - 1) (by omega) (by omega)]
  refine Ev.bind (a := ordB l && (placeB l a && placeB l b)) (evBind0 (IsOrder_eq l (by omega)) ?_) ?_
  · cases ordB l with
    | false => exact evNeg (by simp) (evSome rfl)
    | true => exact evPos rfl (Ev.bind (areWithin2 a b _ _) (evSome rfl))
  · cases ho : ordB l && (placeB l a && placeB l b) with
    | false => exact evNeg (by simp) (evSome (by rw [if_neg (fun h => by rw [h.1, h.2] at ho; cases ho)]))
    | true =>
      rw [Bool.and_eq_true] at ho
      have hab := ho.2
      rw [Bool.and_eq_true] at hab
      obtain ⟨a1, a2⟩ := place_in l a hab.1
      obtain ⟨b1, b2⟩ := place_in l b hab.2
      have hle := (ordB_len l ho.1).2
      exact evPos rfl (evPos ⟨a1, a2, b1, b2, by omega⟩ (evSome (by rw [if_pos ⟨ho.1, ho.2⟩])))
theorem mvC_len (l : List Int) (a b : Int) : (mvC l a b).1.length ≤ 16 := by
  unfold mvC
  split
  · rename_i h
    have := (ordB_len l h.1).2
    show (mvd _ _ _).length ≤ 16
    unfold mvd
    have he : (l.eraseIdx a.toNat).length ≤ l.length := List.length_eraseIdx_le l a.toNat
    simp
    omega
  · simp
theorem FnExactMoveBoat : laws_FnExactMoveBoat.PureQ := by
  intro l a b _ _ _ _
  refine Ev.rounds ?_
  unfold laws_FnExactMoveBoat.f
  by_cases h : l.length > 1048576
  · exact evPos (by omega) (evSome rfl)
  refine evNeg (by omega) ?_
  have hP := toIntS_ev l (by omega)
  have hS := Move_spec l (by omega) a b
  have hI := Move_impl l (by omega) a b
  have hlen := mvC_len l a b
  generalize mvC l a b = s at hS hI hlen
  have hE := eqIntS_self s.1 (by omega)
  have hM := markIntS_ev s.1 (by omega)
  have hH := heldIntS_ev s.1.length (by omega)
  have hEl := eqIntS_self l (by omega)
  have hMl := markIntS_ev l (by omega)
  refine Ev.bind hP (Ev.bind hS (Ev.bind hP (Ev.bind hI (Ev.bind hE (evPos rfl ?_)))))
  refine Ev.step (fun k => by rw [laws_FnExactMoveBoat.j0]) ?_
  refine evNeg (by simp) (Ev.bind hP (Ev.bind hEl (evPos rfl ?_)))
  refine Ev.bind hMl (evNeg (by simp; omega) ?_)
  refine Ev.bind hE (evPos rfl ?_)
  refine Ev.step (fun k => by rw [laws_FnExactMoveBoat.j1]) ?_
  refine evNeg (by simp) (Ev.bind hM (Ev.bind hH (evNeg (by omega) (evPos rfl ?_))))
  refine Ev.bind hP (Ev.bind hI (Ev.bind hE (evPos rfl ?_)))
  refine Ev.step (fun k => by rw [laws_FnExactMoveBoat.j2]) ?_
  exact evNeg (by simp) (Ev.bind hH (evNeg (by omega) (evPos rfl (evSome rfl))))
end Go.Proofs.Ytfegbmlcbdjcgaa.Pure
