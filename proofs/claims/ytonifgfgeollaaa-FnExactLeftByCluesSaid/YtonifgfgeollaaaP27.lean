import Derived.Test.YtonifgfgeollaaaP4
import Derived.Test.YtonifgfgeollaaaP14
import Derived.Test.YtonifgfgeollaaaP17
import Derived.Test.YtonifgfgeollaaaP23
import Derived.Test.YtonifgfgeollaaaP24
import Derived.Test.YtonifgfgeollaaaP25
import Derived.Test.YtonifgfgeollaaaP26
section
/- Lists of numbers: compared, marked and looked at as the laws do. -/
--! needs LBase laws_eqIntS laws_markIntS laws_heldIntS
namespace Go.Proofs.Ytonifgfgeollaaa.X
open Go.Proofs.Ytonifgfgeollaaa.Sq Go.RowKit Go.Proofs.YtonifgfgeollaaaW.PrintWords Go.Proofs.YtonifgfgeollaaaW.PrintLast Go.Proofs.YtonifgfgeollaaaW.PrintMore
attribute [local go_sem] max2_int min2_int max_two min_two max_three min_three max_four min_four   -- for this text's walks alone
set_option linter.unusedVariables false
set_option linter.unusedSimpArgs false
theorem eqIntS_l0 (l : List Int) (hl : l.length ≤ 1048576) (e : Nat) : ∀ i : Nat, i + e = l.length → Ev (fun k => laws_eqIntS.l0 k l l (i : Int)) true := by
  induction e with
  | zero =>
    intro i hi
    refine Ev.step (fun k => by rw [laws_eqIntS.l0]) ?_
    exact evNeg (by omega) (evSome rfl)
  | succ e ih =>
    intro i hi
    refine Ev.step (fun k => by rw [laws_eqIntS.l0]) ?_
    rw [show wrap64 ((i : Int) + 1) = ((i + 1 : Nat) : Int) from (w64 (by omega) (by omega)).trans (by omega)]
    exact evPos (by omega) (evPos (by omega) (evPos (by omega) (evPos rfl (ih (i + 1) (by omega)))))
theorem eqIntS_self (l : List Int) (hl : l.length ≤ 1048576) : Ev (fun k => laws_eqIntS.f k l l) true := by
  unfold laws_eqIntS.f
  exact evPos rfl (eqIntS_l0 l hl l.length 0 (Nat.zero_add _))
def mkI (m : Int) (n : Nat) : List Int := (List.range n).map fun (i : Nat) => m + (i : Int)
theorem mkI_len (m : Int) (n : Nat) : (mkI m n).length = n := by simp [mkI]
theorem markIntS_l0 (l : List Int) (m : Int) (h0 : 0 ≤ m) (hm : m + l.length ≤ 4611686018427387904) (d : Nat) : ∀ i : Nat, i + d = l.length →
    Ev (fun k => laws_markIntS.l0 k ((mkI m l.length).take i ++ l.drop i) (m + (i : Int)) (i : Int)) (m + l.length, mkI m l.length) := by
  induction d with
  | zero =>
    intro i hi
    refine Ev.step (fun k => by rw [laws_markIntS.l0]) ?_
    have hl := mid_len (mkI m l.length) l i (by rw [mkI_len]) (by rw [mkI_len]; omega)
    rw [mkI_len] at hl
    refine evNeg (by rw [hl]; omega) (evSome ?_)
    rw [List.take_of_length_le (by rw [mkI_len]; omega), List.drop_of_length_le (by omega), List.append_nil, show i = l.length by omega]
  | succ d ih =>
    intro i hi
    refine Ev.step (fun k => by rw [laws_markIntS.l0]) ?_
    have hl := mid_len (mkI m l.length) l i (by rw [mkI_len]) (by rw [mkI_len]; omega)
    rw [mkI_len] at hl
    refine evPos (by rw [hl]; omega) (evPos (by omega) ?_)
    rw [w64 (x := m + (i : Int) + 1) (by omega) (by omega), w64 (x := (i : Int) + 1) (by omega) (by omega), Int.toNat_natCast]
    have h2 := ih (i + 1) (by omega)
    rw [← set_mid (mkI m l.length) l i (by rw [mkI_len]; omega) (by rw [mkI_len])] at h2
    have h3 : (mkI m l.length)[i]'(by rw [mkI_len]; omega) = m + (i : Int) := by simp [mkI]
    rw [h3, show m + ((i + 1 : Nat) : Int) = m + (i : Int) + 1 by omega] at h2
    exact h2
theorem markIntS_ev (l : List Int) (hm : l.length ≤ 1048577) : Ev (fun k => laws_markIntS.f k l 1) (1 + (l.length : Int), mkI 1 l.length) := by
  unfold laws_markIntS.f
  have h := markIntS_l0 l 1 (by omega) (by omega) l.length 0 (Nat.zero_add _)
  simpa using h
theorem heldIntS_l0 (m : Int) (n : Nat) (h0 : 0 ≤ m) (hm : m + n ≤ 4611686018427387904) (d : Nat) : ∀ i : Nat, i + d = n → Ev (fun k => laws_heldIntS.l0 k (mkI m n) (m + (i : Int)) (i : Int)) (m + n) := by
  induction d with
  | zero =>
    intro i hi
    refine Ev.step (fun k => by rw [laws_heldIntS.l0]) ?_
    refine evNeg (by rw [mkI_len]; omega) (evSome ?_)
    rw [show i = n by omega]
  | succ d ih =>
    intro i hi
    refine Ev.step (fun k => by rw [laws_heldIntS.l0]) ?_
    have h3 : rd (mkI m n) (i : Int) = m + (i : Int) := by
      unfold rd mkI
      rw [Int.toNat_natCast]
      exact getD_range_map _ n i 0 (by omega)
    rw [w64 (x := m + (i : Int) + 1) (by omega) (by omega), w64 (x := (i : Int) + 1) (by omega) (by omega), h3]
    refine evPos (by rw [mkI_len]; omega) (evPos (by omega) (evPos rfl ?_))
    have h2 := ih (i + 1) (by omega)
    rw [show m + ((i + 1 : Nat) : Int) = m + (i : Int) + 1 by omega] at h2
    exact h2
theorem heldIntS_ev (n : Nat) (hm : n ≤ 1048577) : Ev (fun k => laws_heldIntS.f k (mkI 1 n) 1) (1 + (n : Int)) := by
  unfold laws_heldIntS.f
  have h := heldIntS_l0 1 n (by omega) (by omega) n 0 (Nat.zero_add _)
  simpa using h
end Go.Proofs.Ytonifgfgeollaaa.X
end
section
/- The program's LeftByClues and the reference's come to the same, at every input; what is handed back is new. -/
namespace Go.Proofs.Ytonifgfgeollaaa.Pure
open Go.RowKit Go.Proofs.Ytonifgfgeollaaa.X Go.Proofs.YtonifgfgeollaaaW.PrintWords Go.Proofs.YtonifgfgeollaaaW.PrintLast
/-- How many rivers fit the first i clues, for i below n. -/
def leftTo (q : Int) (l : List S25) (n : Nat) : List Int := (List.range n).map fun i => (((solC q (l.take i)).length : Nat) : Int)
theorem leftTo_len (q : Int) (l : List S25) (n : Nat) : (leftTo q l n).length = n := by simp [leftTo]
theorem leftTo_next (q : Int) (l : List S25) (n : Nat) : leftTo q l (n + 1) = leftTo q l n ++ [(((solC q (l.take n)).length : Nat) : Int)] := by simp [leftTo, List.range_succ]
def leftC (q : Int) (l : List S25) : List Int := if goodB q l = true then leftTo q l (l.length + 1) else []
theorem good_take (q : Int) (l : List S25) (hg : goodB q l = true) (i : Nat) : goodB q (l.take i) = true := by
  unfold goodB at hg ⊢
  simp only [Bool.and_eq_true, decide_eq_true_eq, List.all_eq_true] at hg ⊢
  refine ⟨⟨hg.1.1, ?_⟩, fun c hc => hg.2 c (List.mem_of_mem_take hc)⟩
  rw [List.length_take]
  omega
theorem left_spec_l0 (q : Int) (l : List S25) (hg : goodB q l = true) (hl : l.length ≤ 6) (e : Nat) : ∀ i : Nat, i + e = l.length + 1 → Ev (fun k => spec_LeftByClues.l0 k (leftTo q l i) (i : Int) q l) (leftTo q l (l.length + 1), true) := by
  induction e with
  | zero =>
    intro i hi
    obtain rfl : i = l.length + 1 := by omega
    refine Ev.step (fun k => by rw [spec_LeftByClues.l0]) ?_
    exact evNeg (by omega) (evSome rfl)
  | succ e ih =>
    intro i hi
    have h := ih (i + 1) (by omega)
    rw [leftTo_next] at h
    refine Ev.step (fun k => by rw [spec_LeftByClues.l0]) ?_
    rw [i1 i (by omega), Int.toNat_natCast]
    exact evPos (by omega) (evPos (by omega) (Ev.bind (all_spec q _ (good_take q l hg i)) (evPos (by rw [leftTo_len]; omega) h)))
theorem left_impl_l0 (q : Int) (l : List S25) (hg : goodB q l = true) (hl : l.length ≤ 6) (e : Nat) : ∀ i : Nat, i + e = l.length + 1 → Ev (fun k => impl_LeftByClues.l0 k (leftTo q l i) ((l.length + 1 : Nat) : Int) (i : Int) q l) (leftTo q l (l.length + 1), true) := by
  induction e with
  | zero =>
    intro i hi
    obtain rfl : i = l.length + 1 := by omega
    refine Ev.step (fun k => by rw [impl_LeftByClues.l0]) ?_
    exact evNeg (by omega) (evSome rfl)
  | succ e ih =>
    intro i hi
    have h := ih (i + 1) (by omega)
    rw [leftTo_next] at h
    have hsol : Ev (fun k => impl_solutions.f k q (l.take i)) (solC q (l.take i)) := by
      have hg1 := good_take q l hg i
      unfold solC
      rw [if_pos hg1]
      obtain ⟨p, rfl, h1, h2, h3, h4⟩ := goodB_parts q _ hg1
      rw [Int.toNat_natCast]
      exact sol_ev p h1 h2 _ h3 h4
    refine Ev.step (fun k => by rw [impl_LeftByClues.l0]) ?_
    rw [i1 i (by omega), Int.toNat_natCast]
    exact evPos (by omega) (evPos (by omega) (evPos (by omega) (Ev.bind hsol (evPos (by rw [leftTo_len]; omega) h))))
theorem Left_spec (q : Int) (l : List S25) : Ev (fun k => spec_LeftByClues.f k q l) (leftC q l, goodB q l) := by
  unfold spec_LeftByClues.f leftC
  refine Ev.bind (pzGood_ev q l) ?_
  cases hg : goodB q l with
  | false => exact evNeg (by simp) (evSome rfl)
  | true =>
    obtain ⟨_, _, _, _, hl, _⟩ := goodB_parts q l hg
    exact evPos rfl (left_spec_l0 q l hg hl (l.length + 1) 0 (Nat.zero_add _))
theorem Left_impl (q : Int) (l : List S25) : Ev (fun k => impl_LeftByClues.f k q l) (leftC q l, goodB q l) := by
  unfold impl_LeftByClues.f leftC
  refine Ev.bind (IsPuzzle_impl q l) ?_
  cases hg : goodB q l with
  | false => exact evNeg (by simp) (evSome rfl)
  | true =>
    obtain ⟨_, _, _, _, hl, _⟩ := goodB_parts q l hg
    rw [i1 l.length (by omega)]
    exact evPos rfl (left_impl_l0 q l hg hl (l.length + 1) 0 (Nat.zero_add _))
theorem leftC_len (q : Int) (l : List S25) : (leftC q l).length ≤ 7 := by
  unfold leftC
  split
  · rename_i hg
    obtain ⟨_, _, _, _, hl, _⟩ := goodB_parts q l hg
    rw [leftTo_len]
    omega
  · simp
theorem FnExactLeftByClues : laws_FnExactLeftByClues.Pure := by
  intro p l _ hl
  refine Ev.rounds ?_
  unfold laws_FnExactLeftByClues.f
  refine evBind0 (szPuzzle_eq p l hl.1) ?_
  by_cases h : 1048576 < l.length
  · rw [if_pos h]
    exact evPos (by omega) (evSome rfl)
  rw [if_neg h]
  refine evNeg (by omega) ?_
  generalize hm0 : l.map cvClue = m
  have hml : m.length ≤ 1048576 := by rw [← hm0]; simp; omega
  have hP : Ev (fun k => laws_toPuzzle.f k p l) (p, m) := by rw [← hm0]; exact toPuzzle_ev p l (by omega)
  have hS := Left_spec p m
  have hI := Left_impl p m
  have hlen := leftC_len p m
  generalize leftC p m = s at hS hI hlen
  generalize goodB p m = b at hS hI
  have hE := eqIntS_self s (by omega)
  have hM := markIntS_ev s (by omega)
  have hH := heldIntS_ev s.length (by omega)
  refine Ev.bind hP (Ev.bind hS (Ev.bind hP (Ev.bind hI (Ev.bind hE (evPos rfl ?_)))))
  refine Ev.step (fun k => by rw [laws_FnExactLeftByClues.j0]) ?_
  refine evNeg (by simp) (Ev.bind hP (Ev.bind (eqPuzzle_self p m (by omega)) (evPos rfl ?_)))
  refine Ev.bind (markPuzzle_ev p m (by omega)) (evNeg (by simp; omega) ?_)
  refine Ev.bind hE (evPos rfl ?_)
  refine Ev.step (fun k => by rw [laws_FnExactLeftByClues.j1]) ?_
  refine evNeg (by simp) (Ev.bind hM (Ev.bind hH (evNeg (by omega) (evPos rfl ?_))))
  refine Ev.bind hP (Ev.bind hI (Ev.bind hE (evPos rfl ?_)))
  refine Ev.step (fun k => by rw [laws_FnExactLeftByClues.j2]) ?_
  exact evNeg (by simp) (Ev.bind hH (evNeg (by omega) (evPos rfl (evSome rfl))))
end Go.Proofs.Ytonifgfgeollaaa.Pure
end
