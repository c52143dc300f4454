/- laws.markIntSS: all elements of all rows are written, one row after another. -/
--! fn laws.markIntSS|laws_markIntSS|rounds|making|own 0 0|kept 0 0
--! uses laws.markIntS
import Derived.Test.YtfegbmlcbdjcgaaX0
import Derived.Test.YtfegbmlcbdjcgaaX9
namespace Go.Proofs.Ytfegbmlcbdjcgaa.X
open Go.Proofs.Ytfegbmlcbdjcgaa.Sq Go.RowKit Go.Proofs.YtfegbmlcbdjcgaaW.PrintWords Go.Proofs.YtfegbmlcbdjcgaaW.PrintLast Go.Proofs.YtfegbmlcbdjcgaaW.PrintMore
attribute [local go_sem] max2_int min2_int max_two min_two max_three min_three max_four min_four   -- for this text's walks alone
set_option linter.unusedVariables false
set_option linter.unusedSimpArgs false

def laws_markIntSS.l0 : Nat → List (List Int) → Int → Int → Option (Int × List (List Int))
 | 0, _, _, _ => none
 | k + 1, x0, x1, i => if i < (x0.length : Int) then (if 0 ≤ i then ((laws_markIntS.f k (x0.getD i.toNat []) x1).bind fun t => laws_markIntSS.l0 k (x0.set i.toNat t.2) t.1 (wrap64 (i + 1))) else none) else some (x1, x0)
def laws_markIntSS.f (k : Nat) (l0 : List (List Int)) (a1 : Int) : Option (Int × List (List Int)) := laws_markIntSS.l0 k l0 a1 0
theorem laws_markIntSS.mono_l : ∀ k, (∀ y0 y1 y2, LeO (laws_markIntSS.l0 k y0 y1 y2) (laws_markIntSS.l0 (k + 1) y0 y1 y2))
 | 0 => fun _ _ _ r h => by simp [laws_markIntSS.l0] at h
 | k + 1 => by
  have ih := laws_markIntSS.mono_l k
  intro y0 y1 y2
  rw [laws_markIntSS.l0, laws_markIntSS.l0]
  exact LeO.ite (LeO.ite (LeO.bind (laws_markIntS.mono _ _ _) (fun _ => ih _ _ _)) (LeO.none _)) (LeO.refl _)
theorem laws_markIntSS.mono : ∀ a0 a1 k, LeO (laws_markIntSS.f k a0 a1) (laws_markIntSS.f (k + 1) a0 a1) := fun _ _ k => laws_markIntSS.mono_l k _ _ _
theorem mk_some {α : Type} {d : Kd α} {e base : Nat} {w : World} {ok : Nat → Prop} {A : Option Addr} {n c : Nat} {xs : List α} (h : Kd.S d e w base ok (.slice A n c) xs) (hn : 0 < xs.length) : ∃ ad, A = some ad := by
  obtain ⟨_, inner, ho, _⟩ := Kd.S_R h
  rcases ho.2 with ⟨_, h0⟩ | ⟨g, cap, cur, hv, _⟩
  · omega
  · injection hv with ha _ _
    exact ⟨_, ha⟩
set_option maxHeartbeats 8000000 in
set_option maxRecDepth 100000 in
theorem laws_markIntSS.calls (k : Nat) (P0_ : Nat → Prop) (u9000_ : Value) (l0 : List (List Int)) (a1 : Int) (r1 : Int) (r2 : List (List Int)) (w0 w : World) (hB : Below w0.heap.size w0 w) (ho0 : Kd.S (Kd.slice 3 (Kd.int .i64)) 22 w w0.heap.size P0_ u9000_ l0) (h : laws_markIntSS.f k l0 a1 = some (r1, r2)) :
  Calls Try.prog 25 #[u9000_, .int .i64 a1] w fun e w' => e = .returned (.int .i64 r1) ∧ Kd.S (Kd.slice 3 (Kd.int .i64)) 22 w' w0.heap.size (fun k_ => (P0_ k_ ∨ w.heap.size ≤ k_)) u9000_ r2 ∧ Below w0.heap.size w0 w' ∧ Kept w w' (fun k_ => P0_ k_) := by
  have HO0 := am (show Kd.S (Kd.slice 3 (Kd.int .i64)) 22 w w0.heap.size (fun k_ => (P0_ k_ ∨ w.heap.size ≤ k_)) u9000_ l0 from Kd.S_mono ho0 (fun k_ hk => (.inl hk)))
  have HK := am (Kept.refl w (fun k_ => P0_ k_))
  have HB := am hB
  clear hB ho0
  have H' := am (show laws_markIntSS.l0 k l0 a1 0 = some (r1, r2) from h)
  clear h
  go_enter Try.func25, Try.ntmps25
  go_wp2
  go_loopg [1, 5] k (fun kq v1 v5 w' => ∃ (xs : List (List Int)) (a i : Int), v1 = .int .i64 a ∧ v5 = .int .i64 i ∧ Aside0 (laws_markIntSS.l0 kq xs a i = some (r1, r2)) ∧ Aside0 (kq ≤ k) ∧ Aside0 (Kd.S (Kd.slice 3 (Kd.int .i64)) 22 w' w0.heap.size (fun k_ => (P0_ k_ ∨ w.heap.size ≤ k_)) u9000_ xs) ∧ Aside0 (Kept w w' (fun k_ => P0_ k_)) ∧ Aside0 (Below w0.heap.size w0 w'))
  case atStart => exact ⟨l0, a1, 0, rfl, rfl, H', ⟨Nat.le_refl _⟩, HO0, HK, HB⟩
  case round =>
    clear H' HO0 HK HB
    obtain ⟨xs, a, i, rfl, rfl, HA, HK1, HO, HK, HB⟩ := hrel
    cases gk with
    | zero => exact absurd HA.out (by simp [laws_markIntSS.l0])
    | succ k1 =>
      have H := HA.out
      clear HA
      simp only [laws_markIntSS.l0] at H
      obtain ⟨Au, cu, hu⟩ := Kd.S_slice HO.out
      subst hu
      by_cases ci : i < (xs.length : Int)
      · rw [if_pos ci] at H
        have cid : decide (i < (xs.length : Int)) = true := decide_eq_true ci
        by_cases c0 : 0 ≤ i
        · rw [if_pos c0] at H
          obtain ⟨t, ht, H⟩ := Option.bind_eq_some_iff.mp H
          obtain ⟨t1, t2⟩ := t
          have HT := am ht
          have H' := am H
          clear H ht
          obtain ⟨ad, hAu⟩ : ∃ ad, Au = some ad := mk_some HO.out (by omega)
          subst hAu
          obtain ⟨g, hg⟩ := Kd.R_head (Kd.S_R HO.out)
          subst hg
          obtain ⟨oki, c, hcl, hM, hcc, hoki, hH⟩ := Kd.S_lend HO.out ([] : List Int) i c0 ci
          obtain ⟨v, hv, hRv⟩ := hM
          subst hv
          have hcell : wr.cell? ⟨g, i.toNat, none⟩ = some v := by
            have h_ := hcc 0 v rfl
            have e_ : i.toNat * (Kd.slice 3 (Kd.int .i64)).sz + 0 = i.toNat := by
              show i.toNat * 1 + 0 = i.toNat
              omega
            rw [e_] at h_
            exact h_
          have c0d := eq_true c0
          have cidd := eq_true ci
          have HRV := am hRv
          have HH := am (Kd.H_widen hH)
          have HOK := am hoki
          clear hH hRv hcc hcl hoki HO
          go_wp2_with (go_at_call 16; (with_reducible refine (laws_markIntS.calls k1 oki v _ a t1 t2 w0 _ HB.out HRV.out HT.out).mono ?_); rintro e w2 ⟨rfl, hR2, hB2, hK2⟩)
          have hsz : wr.heap.size ≤ w2.heap.size := hK2.1
          have hwr : w.heap.size ≤ wr.heap.size := HK.out.1
          have hH2 := Kd.H_kept HH.out hK2 (fun k_ ho_ hn_ hs_ => hn_ (.inl hs_))
          have hS2 := Kd.H_back hH2 (x' := t2) (okp := fun k_ => oki k_ ∨ wr.heap.size ≤ k_) ⟨v, rfl, hR2⟩ (fun k_ hk_ => hk_.elim .inl (fun hn_ => .inr ⟨.inr (Nat.le_trans hwr hn_), hn_⟩))
          have HS2 := am hS2
          have HB2 := am hB2
          have HK2 := am (HK.out.then_ hK2 (fun k_ hs_ => (HOK.out k_ hs_).1))
          clear hS2 hH2 hR2 hB2 hK2
          go_roundg k1
          case measure => exact Nat.lt_succ_self _
          case rel => exact ⟨xs.set i.toNat t2, t1, wrap64 (i + 1), rfl, rfl, H', ⟨by have := HK1.out; omega⟩, HS2, HK2, HB2⟩
        · rw [if_neg c0] at H
          exact absurd H (by simp)
      · rw [if_neg ci] at H
        have cid : decide (i < (xs.length : Int)) = false := decide_eq_false ci
        simp only [Option.some.injEq, Prod.mk.injEq] at H
        obtain ⟨rfl, rfl⟩ := H
        go_wp2
        go_ret
        exact ⟨rfl, HO.out, HB.out, HK.out⟩
end Go.Proofs.Ytfegbmlcbdjcgaa.X
