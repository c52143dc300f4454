import Derived.Test.YtncdecmcdlfmmaaDoorP5
import Derived.Test.YtncdecmcdlfmmaaDoorP8
import Derived.Test.YtncdecmcdlfmmaaDoorP9
import Derived.Shelf.Strconv.ErrVarAll
section
/- impl.number: a decimal text, by strconv.Atoi at every text. -/
--! fn impl.number|impl_number|making
--! uses strconv.Itoa; impl.within
--! asks errRange errSyntax pow10
--! lay atoiLay := shelf_lay LaysC.n172 Nm 172 at Tryd
--! laymod Derived.Shelf.Strconv.ErrVarAll Derived.Ground.NamesProg
namespace Go.Proofs.YtncdecmcdlfmmaaDoor.X
open Go.Proofs.YtncdecmcdlfmmaaDoor.Sq Go.RowKit Go.Proofs.YtncdecmcdlfmmaaDoorW.PrintWords Go.Proofs.YtncdecmcdlfmmaaDoorW.PrintLast Go.Proofs.YtncdecmcdlfmmaaDoorW.PrintMore
attribute [local go_sem] max2_int min2_int max_two min_two max_three min_three max_four min_four   -- for this text's walks alone
set_option linter.unusedVariables false
set_option linter.unusedSimpArgs false
/-- What a text tells. -/
def nbB (a0 : ByteArray) (a1 : Int) : Int × Bool := match Lib.atoiAll a0.data.toList with
  | .ok v => if (⟨(Lib.itoa v).toArray⟩ : ByteArray) = a0 ∧ 0 ≤ v ∧ v ≤ a1 then (v, true) else (0, false)
  | _ => (0, false)
def impl_number.f (a0 : ByteArray) (a1 : Int) : Option (Int × Bool) := if a0.size ≤ 281474976710656 then some (nbB a0 a1) else none
theorem nb_below {w w' : World} {t : Array Value} (h : w' = w ∨ ∃ t, w' = Lib.bytesWorld w (atoiLay_ren.t 5) t) : Below w.heap.size w w' := by
  rcases h with rfl | ⟨t, rfl⟩
  · exact Below.refl _ _
  · exact Lib.bytesWorld_below _ _ _
set_option maxHeartbeats 4000000 in
set_option maxRecDepth 100000 in
theorem impl_number.calls (a0 : ByteArray) (a1 : Int) (r1 : Int) (r2 : Bool) (w : World) (hT_errRange : Tab_errRange w) (hT_errSyntax : Tab_errSyntax w) (hT_pow10 : Tab_pow10 w) (h : impl_number.f a0 a1 = some (r1, r2)) :
  Calls Tryd.prog 68 #[.string a0, .int .i64 a1] w fun e w' => e = .returned (.tuple #[.int .i64 r1, .bool r2]) ∧ Below w.heap.size w w' := by
  unfold impl_number.f at h
  split at h
  rotate_left
  · cases h
  rename_i hs
  have h := Option.some.inj h
  unfold nbB at h
  obtain ⟨R, hR⟩ : ∃ R, Lib.atoiAll a0.data.toList = R := ⟨_, rfl⟩
  rw [hR] at h
  rcases R with v | _ | _
  rotate_left
  · skip
    obtain ⟨tp, p, hv⟩ := hT_errSyntax
    have hA := Any.strconv_Atoi_syntax_var atoiLay a0 hs hR tp p w hv
    obtain ⟨rfl, rfl⟩ := Prod.mk.inj h
    clear hR hT_errRange hT_pow10 h
    go_enter Tryd.func68, Tryd.ntmps68
    go_wp2_with (first | (go_at_call 79; refine hA.mono ?_; rintro e w' ⟨N, rfl, hN, hc, hb⟩) | fail)
    go_ret2
    exact ⟨rfl, hb⟩
  · skip
    obtain ⟨tp, p, hv⟩ := hT_errRange
    have hA := Any.strconv_Atoi_range_var atoiLay a0 hs hR tp p w hv
    obtain ⟨rfl, rfl⟩ := Prod.mk.inj h
    clear hR hT_errSyntax hT_pow10 h
    go_enter Tryd.func68, Tryd.ntmps68
    go_wp2_with (first | (go_at_call 79; refine hA.mono ?_; rintro e w' ⟨N, rfl, hN, hc, hb⟩) | fail)
    go_ret2
    exact ⟨rfl, hb⟩
  · skip
    have hA := (Any.strconv_Atoi_ok atoiLay a0 (by omega) v hR w).mono (R' := fun e w' => e = .returned (.tuple #[.int .i64 v, .nilIface]) ∧ Below w.heap.size w w') (fun e w' hh => ⟨hh.1, nb_below (t := #[]) hh.2⟩)
    obtain ⟨vb0, vb1⟩ := Lib.atoiAll_bounds hR
    obtain ⟨x, hx⟩ : ∃ x : ByteArray, (⟨(Lib.itoa v).toArray⟩ : ByteArray) = x := ⟨_, rfl⟩
    have hI : strconv_Itoa.f v = some x := by
      unfold strconv_Itoa.f
      rw [if_pos (by omega), hx]
    replace h : (if x = a0 ∧ 0 ≤ v ∧ v ≤ a1 then (v, true) else (0, false)) = (r1, r2) := by rw [← hx]; exact h
    clear hR hT_errSyntax hT_errRange hx
    have hW : ∀ W, Calls Tryd.prog 36 #[.int .i64 v, .int .i64 0, .int .i64 a1] W fun e w' => e = .returned (.bool (decide (0 ≤ v ∧ v ≤ a1))) ∧ Below W.heap.size W w' := fun W => by
      refine (impl_within.calls v 0 a1 (decide (0 ≤ v ∧ v ≤ a1)) W ?_).mono (fun e w' hh => ⟨hh.1, hh.2.below⟩)
      unfold impl_within.f
      by_cases c : 0 ≤ v
      · rw [if_pos c]; simp [c]
      · rw [if_neg c]; simp [c]
    generalize hd : decide (0 ≤ v ∧ v ≤ a1) = d at hW
    by_cases c1 : x = a0
    · subst c1
      cases d with
      | true =>
        rw [if_pos ⟨rfl, of_decide_eq_true hd⟩] at h
        obtain ⟨rfl, rfl⟩ := Prod.mk.inj h
        have hne : x.toList = x.toList := rfl
        go_enter Tryd.func68, Tryd.ntmps68
        go_wp2_with (first
          | (go_at_call 79; refine hA.mono ?_; rintro e w' ⟨rfl, hb⟩)
          | (go_at_call 70; refine (strconv_Itoa.calls v x _ (hT_pow10.below hb) hI).mono ?_; rintro e w2 ⟨rfl, hb2⟩)
          | (go_at_call 36; refine (hW _).mono ?_; rintro e w3 ⟨rfl, hb3⟩)
          | fail)
        go_ret2
        exact ⟨rfl, below_step (below_step hb hb2) hb3⟩
      | false =>
        rw [if_neg (fun k => by have := of_decide_eq_false hd; exact this k.2)] at h
        obtain ⟨rfl, rfl⟩ := Prod.mk.inj h
        have hne : x.toList = x.toList := rfl
        go_enter Tryd.func68, Tryd.ntmps68
        go_wp2_with (first
          | (go_at_call 79; refine hA.mono ?_; rintro e w' ⟨rfl, hb⟩)
          | (go_at_call 70; refine (strconv_Itoa.calls v x _ (hT_pow10.below hb) hI).mono ?_; rintro e w2 ⟨rfl, hb2⟩)
          | (go_at_call 36; refine (hW _).mono ?_; rintro e w3 ⟨rfl, hb3⟩)
          | fail)
        go_ret2
        exact ⟨rfl, below_step (below_step hb hb2) hb3⟩
    · rw [if_neg (fun k => c1 k.1)] at h
      obtain ⟨rfl, rfl⟩ := Prod.mk.inj h
      have hne : ¬ x.toList = a0.toList := fun e => c1 (by rw [ByteArray.toList_eq, ByteArray.toList_eq] at e; exact ByteArray.ext (Array.toList_inj.1 e))
      go_enter Tryd.func68, Tryd.ntmps68
      go_wp2_with (first
        | (go_at_call 79; refine hA.mono ?_; rintro e w' ⟨rfl, hb⟩)
        | (go_at_call 70; refine (strconv_Itoa.calls v x _ (hT_pow10.below hb) hI).mono ?_; rintro e w2 ⟨rfl, hb2⟩)
        | fail)
      go_ret2
      exact ⟨rfl, below_step hb hb2⟩
end Go.Proofs.YtncdecmcdlfmmaaDoor.X
end
