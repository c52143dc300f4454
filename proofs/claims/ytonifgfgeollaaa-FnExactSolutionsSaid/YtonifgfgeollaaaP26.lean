import Derived.Test.YtonifgfgeollaaaP4
import Derived.Test.YtonifgfgeollaaaP17
import Derived.Test.YtonifgfgeollaaaP24
section
/- Lists of clues marked and looked at, as the laws do. -/
--! needs LBase laws_markPuzzle
namespace Go.Proofs.Ytonifgfgeollaaa.X
open Go.Proofs.Ytonifgfgeollaaa.Sq Go.RowKit Go.Proofs.YtonifgfgeollaaaW.PrintWords Go.Proofs.YtonifgfgeollaaaW.PrintLast Go.Proofs.YtonifgfgeollaaaW.PrintMore
attribute [local go_sem] max2_int min2_int max_two min_two max_three min_three max_four min_four   -- for this text's walks alone
set_option linter.unusedVariables false
set_option linter.unusedSimpArgs false
def mkC (m : Int) (n : Nat) : List S25 := (List.range n).map fun (i : Nat) => ⟨m + 3 * (i : Int), m + 3 * (i : Int) + 1, m + 3 * (i : Int) + 2⟩
theorem mkC_len (m : Int) (n : Nat) : (mkC m n).length = n := by simp [mkC]
theorem mkC_at (m : Int) (n i : Nat) (h : i < n) : rd_T25 (mkC m n) (i : Int) = ⟨m + 3 * i, m + 3 * i + 1, m + 3 * i + 2⟩ := by
  unfold rd_T25 mkC
  rw [Int.toNat_natCast, getD_range_map _ _ _ _ h]
theorem markClueS_l0 (l : List S25) (m : Int) (h0 : 0 ≤ m) (hm : m + 3 * l.length ≤ 4611686018427387904) (d : Nat) : ∀ i : Nat, i + d = l.length →
    Ev (fun k => laws_markClueS.l0 k ((mkC m l.length).take i ++ l.drop i) (m + 3 * i) (i : Int)) (m + 3 * l.length, mkC m l.length) := by
  induction d with
  | zero =>
    intro i hi
    refine Ev.step (fun k => by rw [laws_markClueS.l0]) ?_
    have hl := mid_len (mkC m l.length) l i (by rw [mkC_len]) (by rw [mkC_len]; omega)
    rw [mkC_len] at hl
    refine evNeg (by rw [hl]; omega) (evSome ?_)
    rw [List.take_of_length_le (by rw [mkC_len]; omega), List.drop_of_length_le (by omega), List.append_nil, show i = l.length by omega]
  | succ d ih =>
    intro i hi
    refine Ev.step (fun k => by rw [laws_markClueS.l0]) ?_
    have hl := mid_len (mkC m l.length) l i (by rw [mkC_len]) (by rw [mkC_len]; omega)
    rw [mkC_len] at hl
    refine evPos (by rw [hl]; omega) (evPos (by omega) ?_)
    refine evBind0 rfl ?_
    refine evBind0 rfl ?_
    rw [w64 (x := m + 3 * i + 1) (by omega) (by omega), w64 (x := m + 3 * i + 1 + 1) (by omega) (by omega), w64 (x := m + 3 * i + 1 + 1 + 1) (by omega) (by omega), w64 (x := (i : Int) + 1) (by omega) (by omega)]
    generalize hL : (mkC m l.length).take i ++ l.drop i = L at *
    have hi' : i < L.length := by omega
    have e1 : ∀ a : S25, rd_T25 (L.set i a) (i : Int) = a := fun a => by
      unfold rd_T25
      rw [Int.toNat_natCast]
      exact getD_set_same L i a _ hi'
    simp only [Int.toNat_natCast, e1, List.set_set]
    have h2 := ih (i + 1) (by omega)
    rw [← set_mid (mkC m l.length) l i (by rw [mkC_len]; omega) (by rw [mkC_len]), hL] at h2
    have h3 : (mkC m l.length)[i]'(by rw [mkC_len]; omega) = ⟨m + 3 * i, m + 3 * i + 1, m + 3 * i + 1 + 1⟩ := by
      rw [getElem_getD _ _ z25]
      have := mkC_at m l.length i (by omega)
      unfold rd_T25 at this
      rw [Int.toNat_natCast] at this
      rw [this, show m + 3 * (i : Int) + 1 + 1 = m + 3 * i + 2 by omega]
    rw [h3] at h2
    refine (evEq (g := _) ?_ rfl)
    have e4 : m + 3 * ((i + 1 : Nat) : Int) = m + 3 * (i : Int) + 1 + 1 + 1 := by omega
    rw [e4] at h2
    exact h2
theorem markPuzzle_ev (p : Int) (l : List S25) (hm : l.length ≤ 1048577) : Ev (fun k => laws_markPuzzle.f k p l 1) (1 + 3 * l.length, mkC 1 l.length) := by
  unfold laws_markPuzzle.f laws_markClueS.f
  have h := markClueS_l0 l 1 (by omega) (by omega) l.length 0 (by omega)
  refine Ev.bind (f := fun _ bt => some (bt.1, bt.2)) (a := (1 + 3 * (l.length : Int), mkC 1 l.length)) ?_ (evSome rfl)
  simpa using h
end Go.Proofs.Ytonifgfgeollaaa.X
end
