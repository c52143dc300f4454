/- Lists of lists of numbers: compared, marked and looked at as the laws do. -/
--! needs LBase LInts LIntEq laws_markIntSS laws_heldIntSS laws_eqIntSS
import Derived.Test.YtfegbmlcbdjcgaaX0
import Derived.Test.YtfegbmlcbdjcgaaX8
import Derived.Test.YtfegbmlcbdjcgaaX9
import Derived.Test.YtfegbmlcbdjcgaaEMarkIntSS
import Derived.Test.YtfegbmlcbdjcgaaX10
import Derived.Test.YtfegbmlcbdjcgaaLBase
import Derived.Test.YtfegbmlcbdjcgaaLIntEq
import Derived.Test.YtfegbmlcbdjcgaaLInts
namespace Go.Proofs.Ytfegbmlcbdjcgaa.X
open Go.Proofs.Ytfegbmlcbdjcgaa.Sq Go.RowKit Go.Proofs.YtfegbmlcbdjcgaaW.PrintWords Go.Proofs.YtfegbmlcbdjcgaaW.PrintLast Go.Proofs.YtfegbmlcbdjcgaaW.PrintMore
attribute [local go_sem] max2_int min2_int max_two min_two max_three min_three max_four min_four   -- for this text's walks alone
set_option linter.unusedVariables false
set_option linter.unusedSimpArgs false

def totL : List (List Int) → Nat
 | [] => 0
 | l :: r => l.length + totL r
def mkSS (m : Int) : List (List Int) → List (List Int)
 | [] => []
 | l :: r => mkI m l.length :: mkSS (m + (l.length : Int)) r
theorem rdL_mid (P R : List (List Int)) (l : List Int) : (P ++ l :: R).getD P.length [] = l := by
  rw [List.getD_eq_getElem?_getD, List.getElem?_append_right (Nat.le_refl _), Nat.sub_self]
  rfl
theorem markIntS_at (l : List Int) (m : Int) (h0 : 0 ≤ m) (hm : m + l.length ≤ 1000000000) : Ev (fun k => laws_markIntS.f k l m) (m + (l.length : Int), mkI m l.length) := by
  unfold laws_markIntS.f
  have h := markIntS_l0 l m h0 (by omega) l.length 0 (Nat.zero_add _)
  simpa using h
theorem heldIntS_at (m : Int) (n : Nat) (h0 : 0 ≤ m) (hm : m + n ≤ 1000000000) : Ev (fun k => laws_heldIntS.f k (mkI m n) m) (m + (n : Int)) := by
  unfold laws_heldIntS.f
  have h := heldIntS_l0 m n h0 (by omega) n 0 (Nat.zero_add _)
  simpa using h
theorem nxt1 (n : Nat) (h : n ≤ 1000000000) : wrap64 ((n : Int) + 1) = ((n + 1 : Nat) : Int) := (w64 (by omega) (by omega)).trans (by omega)
theorem markSS_l0 (R : List (List Int)) : ∀ (P : List (List Int)) (a : Int), 0 ≤ a → a + (totL R : Int) ≤ 1000000 → P.length + R.length ≤ 1000000 → Ev (fun k => laws_markIntSS.l0 k (P ++ R) a (P.length : Int)) (a + (totL R : Int), P ++ mkSS a R) := by
  induction R with
  | nil =>
    intro P a _ _ _
    refine Ev.step (fun k => by rw [laws_markIntSS.l0]) ?_
    refine evNeg (by simp) (evSome ?_)
    simp [totL, mkSS]
  | cons l R ih =>
    intro P a h0 hb hl
    have hbt : a + (l.length : Int) + (totL R : Int) ≤ 1000000 := by simp only [totL] at hb; omega
    have hlt : P.length + 1 + R.length ≤ 1000000 := by simp only [List.length_cons] at hl; omega
    refine Ev.step (fun k => by rw [laws_markIntSS.l0]) ?_
    rw [Int.toNat_natCast, rdL_mid, nxt1 P.length (by omega)]
    refine evPos (by simp; omega) (evPos (by omega) (Ev.bind (markIntS_at l a h0 (by omega)) ?_))
    have hs : (P ++ l :: R).set P.length (mkI a l.length) = (P ++ [mkI a l.length]) ++ R := by
      rw [List.set_append_right _ _ (Nat.le_refl _), Nat.sub_self]
      simp
    show Ev (fun k => laws_markIntSS.l0 k ((P ++ l :: R).set P.length (mkI a l.length)) (a + (l.length : Int)) ((P.length + 1 : Nat) : Int)) _
    rw [hs]
    have h2 := ih (P ++ [mkI a l.length]) (a + (l.length : Int)) (by omega) hbt (by simp; omega)
    rw [List.length_append, List.length_singleton] at h2
    refine evEq h2 ?_
    simp only [totL, mkSS, List.append_assoc, List.singleton_append]
    refine Prod.ext ?_ rfl
    show a + (l.length : Int) + (totL R : Int) = a + ((l.length + totL R : Nat) : Int)
    omega
theorem heldSS_l0 (R : List (List Int)) : ∀ (P : List (List Int)) (a : Int), 0 ≤ a → a + (totL R : Int) ≤ 1000000 → P.length + R.length ≤ 1000000 → Ev (fun k => laws_heldIntSS.l0 k (P ++ mkSS a R) a (P.length : Int)) (a + (totL R : Int)) := by
  induction R with
  | nil =>
    intro P a _ _ _
    refine Ev.step (fun k => by rw [laws_heldIntSS.l0]) ?_
    refine evNeg (by simp [mkSS]) (evSome ?_)
    simp [totL]
  | cons l R ih =>
    intro P a h0 hb hl
    have hbt : a + (l.length : Int) + (totL R : Int) ≤ 1000000 := by simp only [totL] at hb; omega
    have hlt : P.length + 1 + R.length ≤ 1000000 := by simp only [List.length_cons] at hl; omega
    refine Ev.step (fun k => by rw [laws_heldIntSS.l0]) ?_
    unfold rd_L1
    simp only [mkSS]
    rw [Int.toNat_natCast, rdL_mid, nxt1 P.length (by omega)]
    refine evPos (by simp; omega) (evPos (by omega) (Ev.bind (heldIntS_at a l.length h0 (by omega)) (evNeg (by omega) ?_)))
    have h2 := ih (P ++ [mkI a l.length]) (a + (l.length : Int)) (by omega) hbt (by simp; omega)
    rw [List.length_append, List.length_singleton, List.append_assoc, List.singleton_append] at h2
    refine evEq h2 ?_
    simp only [totL]
    omega
theorem eqSS_l0 (R : List (List Int)) : ∀ P : List (List Int), (totL R : Int) ≤ 1000000 → P.length + R.length ≤ 1000000 → Ev (fun k => laws_eqIntSS.l0 k (P ++ R) (P ++ R) (P.length : Int)) true := by
  induction R with
  | nil =>
    intro P _ _
    refine Ev.step (fun k => by rw [laws_eqIntSS.l0]) ?_
    exact evNeg (by simp) (evSome rfl)
  | cons l R ih =>
    intro P hb hl
    have hbt : (l.length : Int) + (totL R : Int) ≤ 1000000 := by simp only [totL] at hb; omega
    have hlt : P.length + 1 + R.length ≤ 1000000 := by simp only [List.length_cons] at hl; omega
    refine Ev.step (fun k => by rw [laws_eqIntSS.l0]) ?_
    unfold rd_L1
    rw [Int.toNat_natCast, rdL_mid, nxt1 P.length (by omega)]
    refine evPos (by simp; omega) (evPos (by omega) (evPos (by simp; omega) (Ev.bind (eqIntS_self l (by omega)) (evPos rfl ?_))))
    have h2 := ih (P ++ [l]) (by omega) (by simp; omega)
    rw [List.length_append, List.length_singleton, List.append_assoc, List.singleton_append] at h2
    exact h2
theorem markSS_ev (R : List (List Int)) (hb : totL R ≤ 10000) (hl : R.length ≤ 10000) : Ev (fun k => laws_markIntSS.f k R 1) (1 + (totL R : Int), mkSS 1 R) := by
  unfold laws_markIntSS.f
  exact markSS_l0 R [] 1 (by omega) (by omega) (by simp; omega)
theorem heldSS_ev (R : List (List Int)) (hb : totL R ≤ 10000) (hl : R.length ≤ 10000) : Ev (fun k => laws_heldIntSS.f k (mkSS 1 R) 1) (1 + (totL R : Int)) := by
  unfold laws_heldIntSS.f
  exact heldSS_l0 R [] 1 (by omega) (by omega) (by simp; omega)
theorem eqSS_self (R : List (List Int)) (hb : totL R ≤ 10000) (hl : R.length ≤ 10000) : Ev (fun k => laws_eqIntSS.f k R R) true := by
  unfold laws_eqIntSS.f
  exact evPos rfl (eqSS_l0 R [] (by omega) (by simp; omega))
end Go.Proofs.Ytfegbmlcbdjcgaa.X
