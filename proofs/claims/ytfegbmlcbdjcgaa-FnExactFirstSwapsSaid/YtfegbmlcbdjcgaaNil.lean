/- A slice that is nil reads as the empty list. -/
import Derived.Test.YtfegbmlcbdjcgaaWWords
namespace Go.Proofs.Ytfegbmlcbdjcgaa.Open
open Go.Proofs.YtfegbmlcbdjcgaaW.PrintWords
theorem nil_of_C {α : Type} {d : Kd α} {w : World} {A : Option Addr} {n : Nat} {xs : List α} (h : Kd.C d w A n xs) (hA : Option.isNone A = true) : xs = [] := by
  obtain ⟨h1, _, h2⟩ := h
  cases A with
  | some a => simp at hA
  | none =>
    by_cases hn : 0 < n
    · obtain ⟨ad, e, _⟩ := h2 hn
      cases e
    · exact List.length_eq_zero_iff.mp (by omega)
end Go.Proofs.Ytfegbmlcbdjcgaa.Open
