import Derived.Test.YtncdecmcdlfmmaaDoorP5
import Derived.Test.YtncdecmcdlfmmaaDoorP11
import Derived.Test.YtncdecmcdlfmmaaDoorP12
import Derived.Test.YtncdecmcdlfmmaaDoorP13
import Derived.Test.YtncdecmcdlfmmaaDoorP15
import Derived.Deep.RegionLaw
import Derived.Laws.CopyOwn
import Derived.RangeFuncNested
import Derived.RangeFuncBound
import Derived.RangeFuncCalls
import Derived.RangeFuncLeaves
import Derived.RangeFuncWrites
import Derived.Shelf.Abstract
import Derived.Shelf.RegionOpen
import Derived.WalkKit
import Derived.OwnWalkIn
import Derived.TacticsInMore
import Derived.LoopNIn
import Derived.LoopIn
import Derived.Sort.LoopGhostIn
import Derived.Sort.CutIn
import Derived.OrdersIn
import Derived.TacticsIn
section
/- impl.ParseIsles: numbers, slices.Chunk, a range over a function whose body appends to a struct's field. -/
--! fn impl.ParseIsles|impl_ParseIsles|rounds|making
--! uses impl.numbers; slices.Chunk[[]int,int]; impl.AreIsles; impl.islesText
--! asks errRange errSyntax pow10
namespace Go.Proofs.YtncdecmcdlfmmaaDoor.X
open Go.Proofs.YtncdecmcdlfmmaaDoor.Sq Go.RowKit Go.Proofs.YtncdecmcdlfmmaaDoorW.PrintWords Go.Proofs.YtncdecmcdlfmmaaDoorW.PrintLast Go.Proofs.YtncdecmcdlfmmaaDoorW.PrintMore
attribute [local go_sem] max2_int min2_int max_two min_two max_three min_three max_four min_four   -- for this text's walks alone
set_option linter.unusedVariables false
set_option linter.unusedSimpArgs false
def piSep : ByteArray := ⟨#[105, 45, 58, 44]⟩
def piBridge (t : List Int) (j : Nat) : S51 := ⟨rdOf 0 t ((1 + 3 * j : Nat) : Int), rdOf 0 t ((1 + 3 * j + 1 : Nat) : Int), rdOf 0 t ((1 + 3 * j + 2 : Nat) : Int)⟩
def piBridges (t : List Int) : List S51 := (List.range (t.length / 3)).map (piBridge t)
def impl_ParseIsles.g (k : Nat) (a0 : ByteArray) (q : Int) (ps : List S51) : Option (Int × List S51 × Bool) :=
  (impl_AreIsles.f k q ps).bind fun b => if b = true then (impl_islesText.f k q ps).bind fun s => (if s = a0 then some (q, ps, true) else some (0, [], false)) else some (0, [], false)
def impl_ParseIsles.f (k : Nat) (a0 : ByteArray) : Option (Int × List S51 × Bool) :=
  (impl_numbers.f k a0 piSep 1000).bind fun t => if t.2 = true then (if t.1.length % 3 = 1 then (if t.1.length ≤ 100000000 then impl_ParseIsles.g k a0 (rdOf 0 t.1 0) (piBridges t.1) else none) else some (0, [], false)) else some (0, [], false)
attribute [local go_sem] Oper.semAt_some
set_option maxHeartbeats 8000000 in
set_option maxRecDepth 100000 in
theorem impl_ParseIsles.calls (k : Nat) (a0 : ByteArray) (r1 : Int) (r2 : List S51) (r3 : Bool) (w : World) (hT_errRange : Tab_errRange w) (hT_errSyntax : Tab_errSyntax w) (hT_pow10 : Tab_pow10 w) (h : impl_ParseIsles.f k a0 = some (r1, r2, r3)) :
  Calls Tryd.prog 25 #[.string a0] w fun e w' => ∃ v1_ : Value, e = .returned (.tuple #[.agg #[.int .i64 r1, v1_], .bool r3]) ∧ Kd.R k51 51 w' w.heap.size (fun _ => True) v1_ r2 ∧ Below w.heap.size w w' := by
  unfold impl_ParseIsles.f at h
  obtain ⟨⟨t, ok⟩, ht, h⟩ := Option.bind_eq_some_iff.1 h
  dsimp only at h
  refine (callsIn_wide (n := 5)).1 ?_
  refine callsIn_of_wp_marks Tryd.func25 rfl trivial ?_ rfl
  simp only [Tryd.ntmps25, List.size_toArray, List.length_cons, List.length_nil, Nat.reduceAdd, Nat.reduceSub, Array.replicate_succ, Array.replicate_zero, List.push_toArray, List.append_toArray, List.nil_append, List.cons_append]
  refine wpIn_wide.2 ?_
  go_wp2_with fail
  have hB1 : Below w.heap.size w (w.alloc (.cells #[.int .i64 0, .slice none 0 0] 32)) := (Below.refl _ w).alloc (Nat.le_refl _) _
  have hN := impl_numbers.calls k a0 piSep 1000 t ok (w.alloc (.cells #[.int .i64 0, .slice none 0 0] 32)) (hT_errRange.below hB1) (hT_errSyntax.below hB1) (hT_pow10.below hB1) ht
  refine hN.mono ?_
  rintro e W2 ⟨v, rfl, hR, hb⟩
  have hres2 : W2.heap[w.heap.size]? = some (.cells #[.int .i64 0, .slice none 0 0] 32 (0, 0)) := blk_below (blk_new w _) hb
  have hB2 : Below w.heap.size w W2 := hB1.trans (hb.mono hB1.size)
  have hT2 := am hT_pow10
  clear hN hT_errRange hT_errSyntax hT_pow10 ht
  cases ok with
  | false =>
    rw [if_neg (by simp)] at h
    simp only [Option.some.injEq, Prod.mk.injEq] at h
    obtain ⟨rfl, rfl, rfl⟩ := h
    obtain ⟨A, c, rfl⟩ := Kd.R_slice hR
    obtain ⟨s1, s2, s3, s4, s5⟩ := ck_two hres2 (.int .i64 0) (.slice none 0 0)
    obtain ⟨s6, s7⟩ := ck_cells s5
    go_wp2_with fail
    refine ⟨.tuple #[.agg #[.int .i64 0, .slice none 0 0], .bool false], ?res, _, rfl, Kd.R_nil _ _ _ _ _, ck_below hB2 (Nat.le_refl _) _ _⟩
    case res =>
      unfold results
      simp only [Tryd.f25]
      go_simp
  | true =>
    rw [if_pos rfl] at h
    by_cases hm : t.length % 3 = 1
    rotate_left
    · rw [if_neg hm] at h
      simp only [Option.some.injEq, Prod.mk.injEq] at h
      obtain ⟨rfl, rfl, rfl⟩ := h
      obtain ⟨A, c, rfl⟩ := Kd.R_slice hR
      obtain ⟨s1, s2, s3, s4, s5⟩ := ck_two hres2 (.int .i64 0) (.slice none 0 0)
      obtain ⟨s6, s7⟩ := ck_cells s5
      have hm1 : Int.tmod (t.length : Int) 3 = ((t.length % 3 : Nat) : Int) := rfl
      have hm2 : ¬ Int.tmod (t.length : Int) 3 = 1 := by rw [hm1]; omega
      go_wp2_with fail
      refine ⟨.tuple #[.agg #[.int .i64 0, .slice none 0 0], .bool false], ?res, _, rfl, Kd.R_nil _ _ _ _ _, ck_below hB2 (Nat.le_refl _) _ _⟩
      case res =>
        unfold results
        simp only [Tryd.f25]
        go_simp
    · rw [if_pos hm] at h
      by_cases hlen : t.length ≤ 100000000
      rotate_left
      · rw [if_neg hlen] at h
        cases h
      rw [if_pos hlen] at h
      obtain ⟨m, hm3⟩ : ∃ m, t.length = 3 * m + 1 := ⟨t.length / 3, by omega⟩
      obtain ⟨gs, cs, rfl, gb, gl, cl, hG⟩ := Kd.R_form hR (by omega)
      obtain ⟨_, hcs, hC⟩ := Kd.R_reads' hR
      have hq0 := (Kd.R_celln 0 hR 0 (by omega) (by omega)).1
      have hm1 : Int.tmod (t.length : Int) 3 = 1 := by
        have : Int.tmod (t.length : Int) 3 = ((t.length % 3 : Nat) : Int) := rfl
        rw [this, hm]
        rfl
      have hz : ((0 : Int).toNat) = 0 := rfl
      rw [hz] at hq0
      obtain ⟨ad, had⟩ : ∃ ad : Option Addr, (if cs = 1 then some ⟨gs, 0, none⟩ else some ⟨gs, 1, none⟩) = ad := ⟨_, rfl⟩
      have hsl : ∀ W, (Instr.slice 25 (.slice (some ⟨gs, 0, none⟩) (3 * m + 1) cs) (some (.int .i64 1)) none none).run Tryd.prog W = .ok (.slice ad (3 * m) (cs - 1)) W := fun W => by
        rw [run_slice_l (ht := Tryd.underlying25) (h0 := by omega) (h1 := by omega)]
        rw [← had]
        go_simp
      have hadm : 0 < m → ad = some ⟨gs, 1, none⟩ := fun hm0 => by rw [← had, if_neg (by omega)]
      have hcap : 3 * m ≤ cs - 1 := by omega
      clear had
      go_wp2_with fail
      have hs2 := blk_lt hres2
      refine (callsIn_wide.1 (chunk_in 5 _ _ _ _)).mono ?_
      rintro e W7 ⟨rfl, hW7⟩
      have hsz : (W2.alloc (.cells #[.int .i64 (rdOf 0 t 0), .slice none 0 0] 32)).heap.size = W2.heap.size + 1 := by simp
      rw [hsz]
      have hs7 : W7.heap.size = W2.heap.size + 3 := by rw [hW7]; simp
      have hp7 : W7.heap[W2.heap.size]? = some (.cells #[.int .i64 (rdOf 0 t 0), .slice none 0 0] 32 (0, 0)) := by
        rw [hW7]; exact blk_alloc (blk_alloc (blk_new W2 _) _) _
      have hr7 : W7.heap[w.heap.size]? = some (.cells #[.int .i64 0, .slice none 0 0] 32 (0, 0)) := by
        rw [hW7]; exact blk_alloc (blk_alloc (blk_alloc hres2 _) _) _
      have hx7 : W7.cell? ⟨W2.heap.size + 1, 0, none⟩ = some (.slice ad (3 * m) (cs - 1)) := by
        have := blk_cell (blk_alloc (blk_new (W2.alloc (.cells #[.int .i64 (rdOf 0 t 0), .slice none 0 0] 32)) (.cells #[.slice ad (3 * m) (cs - 1)] 25)) (.cells #[.int .i64 3] 3)) 0
        rw [hsz] at this
        rw [hW7]
        exact this
      have hy7 : W7.cell? ⟨W2.heap.size + 1 + 1, 0, none⟩ = some (.int .i64 3) := by
        have := blk_cell (blk_new ((W2.alloc (.cells #[.int .i64 (rdOf 0 t 0), .slice none 0 0] 32)).alloc (.cells #[.slice ad (3 * m) (cs - 1)] 25)) (.cells #[.int .i64 3] 3)) 0
        rw [World.size_alloc, hsz] at this
        rw [hW7]
        exact this
      have hC7 : Kd.C (Kd.int .i64) W7 (some ⟨gs, 0, none⟩) t.length t := by rw [hW7]; exact Kd.C_alloc (Kd.C_alloc (Kd.C_alloc hC _) _) _
      have hB7 : Below w.heap.size w W7 := by rw [hW7]; exact below_alloc (below_alloc (below_alloc hB2 _) _) _
      clear hW7 hsz
      have hst := chunk_stops (m := m) 4 (by omega) (W2.heap.size + 1) (W2.heap.size + 1 + 1) gs (cs - 1) W2.heap.size (by omega) W7 (by omega) (by omega) (by omega) (by omega) hcap ad hadm hx7 hy7
      go_wp2_with fail
      refine (wpIn_wide (n := 5)).1 ?_
      refine wpIn_rangeFunc_ownG rfl (by omega) (gf := 69) (lb := #[.pointer (some ⟨W2.heap.size + 1, 0, none⟩), .pointer (some ⟨W2.heap.size + 1 + 1, 0, none⟩)]) rfl trivial (enters_of Tryd.func69 (by kernel_rfl) rfl) hst (fun h k => h.trans k) ck_beside_b (Below.refl _ _) (fun _ => rfl)
        (fun pre W => ((CkBeside W2.heap.size W7.heap.size W7 W ∧ W7.heap.size ≤ W.heap.size) ∧ ∃ vc, W.heap[W2.heap.size]? = some (.cells #[.int .i64 (rdOf 0 t 0), vc] 32 (0, 0)) ∧ Kd.R k51 51 W W7.heap.size (fun _ => True) vc (pre.map (fun x => piBridge t x.val))) ∧ Below w.heap.size w W)
        (fun _ _ _ => False)
        (OwnFrom.and (fun pre A B row hs hg hr => by
          obtain ⟨⟨h1, h0⟩, vc, h2, h3⟩ := hs
          refine ⟨⟨fun k hk hn => (hg.block k (by omega) (fun e => ?_)).trans (h1 k hk hn), Nat.le_trans h0 hg.size⟩, vc, blk_grown h2 hg (fun e => ?_), ck_R_walk h3 hg (fun r e => (hr r e).2)⟩
          · have := (hr k e.symm).1
            omega
          · obtain ⟨o, ho, hi⟩ := (hr _ e.symm).2
            rw [h2] at ho
            cases ho
            cases hi) (ownFrom_below (Nat.le_refl _) (by omega)))
        (fun _ _ _ _ _ hs _ _ => hs)
        ⟨⟨⟨CkBeside.refl _ _ _, Nat.le_refl _⟩, _, hp7, Kd.R_nil _ _ _ _ _⟩, hB7⟩
        (fun x => { tmps := #[.string a0, undef, .pointer (some ⟨w.heap.size, 0, none⟩), .bool false, .slice (some ⟨gs, 0, none⟩) (3 * m + 1) cs, .bool true, .pointer (some ⟨W2.heap.size, 0, none⟩), .slice (some ⟨gs, 1 + 3 * x.val, none⟩) 3 3, .tuple #[.slice (some ⟨gs, 0, none⟩) (3 * m + 1) cs, .bool true], .string a0, .tuple #[.slice (some ⟨gs, 0, none⟩) (3 * m + 1) cs, .bool true], .slice (some ⟨gs, 0, none⟩) (3 * m + 1) cs, .bool true, .bool true, .bool false, .bool false, .slice (some ⟨gs, 0, none⟩) (3 * m + 1) cs, .int .i64 (3 * (m : Int) + 1), .int .i64 1, .bool false, .bool false, undef, .slice (some ⟨gs, 0, none⟩) (3 * m + 1) cs, .pointer (some ⟨gs, 0, none⟩), .int .i64 (rdOf 0 t 0), .agg #[.int .i64 (rdOf 0 t 0), .slice none 0 0], .slice (some ⟨gs, 0, none⟩) (3 * m + 1) cs, .slice ad (3 * m) (cs - 1), .func (.func 69) #[] #[.pointer (some ⟨W2.heap.size + 1, 0, none⟩), .pointer (some ⟨W2.heap.size + 1 + 1, 0, none⟩)], .slice (some ⟨gs, 1 + 3 * x.val, none⟩) 3 3, undef, undef, undef, undef, undef, undef, undef, undef, undef, undef, undef, undef, undef, undef, undef, undef, undef, undef, undef, undef, undef, undef, undef, undef, undef, undef], defers := [] }) ?assign ?body ?done ?stop
      case assign =>
        intro l x W K hK
        gi_wp2
        exact hK
      case stop =>
        rintro D c pre W _ _ hx _
        exact hx.elim
      case done =>
        have hDD : w.heap.size ≤ W7.heap.size ∧ w.heap.size < W7.heap.size ∧ w.heap.size ≠ W2.heap.size := ⟨by omega, by omega, by omega⟩
        have hml : t.length / 3 = m := by omega
        clear hst hC7 hp7 hx7 hy7 hB7 hB2 hC hb hR hG hres2 hB1 hq0 hsl hadm hcap
        rintro D ys W hD rfl ⟨⟨⟨hbe, hle⟩, vc, hpv, hrow⟩, hB⟩ hK
        rw [ch_map (piBridge t) m (Nat.le_refl _)] at hrow
        have hpc : (List.range m).map (piBridge t) = piBridges t := by unfold piBridges; rw [hml]
        rw [hpc] at hrow
        have hT3 := hT2.out.below hB
        unfold impl_ParseIsles.g at h
        obtain ⟨b1, hb1, h⟩ := Option.bind_eq_some_iff.1 h
        generalize piBridges t = ps at h hb1 hrow
        generalize rdOf 0 t 0 = q at h hb1 hpv ⊢
        obtain ⟨Av, cv, rfl⟩ := Kd.R_slice hrow
        obtain ⟨_, hcv, hCv⟩ := Kd.R_reads' hrow
        obtain ⟨p1, p2⟩ := ck_cells hpv
        have hrs : W.heap[w.heap.size]? = some (.cells #[.int .i64 0, .slice none 0 0] 32 (0, 0)) := (hbe w.heap.size hDD.2.1 hDD.2.2).trans hr7
        have hDl := blk_lt hK
        have hDw : w.heap.size ≤ D := by omega
        have hDne : D ≠ w.heap.size := by omega
        clear hD hDD
        go_wp2_with fail
        refine (impl_AreIsles.calls k q Av cv ps b1 W hCv (by omega) hb1).mono ?_
        rintro e W8 ⟨rfl, hb8⟩
        have hB8 := below_step hB hb8
        have hrs8 := blk_below hrs hb8
        have hK8 := blk_below hK hb8
        have hpv8 := blk_below hpv hb8
        have hrow8 := Kd.R_below hrow hb8
        have hT8 := hT2.out.below hB8
        clear hB hrs hK hpv hrow hbe hT3 hCv p1 p2
        cases b1 with
        | false =>
          simp only [Bool.false_eq_true, if_false, Option.some.injEq, Prod.mk.injEq] at h
          obtain ⟨rfl, rfl, rfl⟩ := h
          obtain ⟨s1, s2, s3, s4, s5⟩ := ck_two hrs8 (.int .i64 0) (.slice none 0 0)
          obtain ⟨e1, e2, e3⟩ := ck_end hK8 hrs8 (.int .i64 0) (.slice none 0 0)
          go_wp2_with fail
          refine ⟨by simp, .inl ⟨_, _, rfl, run_takeDeferred e1, ?_⟩⟩
          refine ⟨.tuple #[.agg #[.int .i64 0, .slice none 0 0], .bool false], ?res, _, rfl, Kd.R_nil _ _ _ _ _, ck_out hB8 (Nat.le_refl _) hDw hK8 hDne _ _⟩
          case res =>
            unfold results
            simp only [Tryd.f25]
            go_simp
        | true =>
          rw [if_pos rfl] at h
          obtain ⟨sx, hsx, h⟩ := Option.bind_eq_some_iff.1 h
          obtain ⟨p1, p2⟩ := ck_cells hpv8
          obtain ⟨_, hcv8, hCv8⟩ := Kd.R_reads' hrow8
          go_wp2_with fail
          refine (impl_islesText.calls k q Av cv ps sx W8 hCv8 (by omega) hT8 hsx).mono ?_
          rintro e W9 ⟨rfl, hb9⟩
          have hB9 := below_step hB8 hb9
          have hrs9 := blk_below hrs8 hb9
          have hK9 := blk_below hK8 hb9
          have hpv9 := blk_below hpv8 hb9
          have hrow9 := Kd.R_below hrow8 hb9
          clear hB8 hrs8 hK8 hpv8 hrow8 hT8 hCv8 p1 p2
          by_cases hs : sx = a0
          · rw [if_pos hs] at h
            simp only [Option.some.injEq, Prod.mk.injEq] at h
            obtain ⟨rfl, rfl, rfl⟩ := h
            subst hs
            have hne : sx.toList = sx.toList := rfl
            obtain ⟨p1, p2⟩ := ck_cells hpv9
            obtain ⟨s1, s2, s3, s4, s5⟩ := ck_two hrs9 (.int .i64 q) (.slice Av ps.length cv)
            obtain ⟨e1, e2, e3⟩ := ck_end hK9 hrs9 (.int .i64 q) (.slice Av ps.length cv)
            go_wp2_with fail
            refine ⟨by simp, .inl ⟨_, _, rfl, run_takeDeferred e1, ?_⟩⟩
            have hr1 := Kd.R_set (Kd.R_set hrow9 hrs9 (by decide) 0 (.int .i64 q)) (blk_set hrs9 0 (.int .i64 q)) (by decide) 1 (.slice Av ps.length cv)
            have hr2 := ck_R_walk hr1 (grownBy_putObj' _ D (.deferred none)) (fun r e => by cases e; exact ⟨_, e1, rfl⟩)
            refine ⟨.tuple #[.agg #[.int .i64 q, .slice Av ps.length cv], .bool true], ?res, _, rfl, Kd.R_lower hr2 (by omega), ck_out hB9 (Nat.le_refl _) hDw hK9 hDne _ _⟩
            case res =>
              unfold results
              simp only [Tryd.f25]
              go_simp
          · rw [if_neg hs] at h
            simp only [Option.some.injEq, Prod.mk.injEq] at h
            obtain ⟨rfl, rfl, rfl⟩ := h
            have hne : ¬ sx.toList = a0.toList := fun e => hs (by rw [ByteArray.toList_eq, ByteArray.toList_eq] at e; exact ByteArray.ext (Array.toList_inj.1 e))
            have hne2 : (sx.toList == a0.toList) = false := beq_eq_false_iff_ne.2 hne
            obtain ⟨s1, s2, s3, s4, s5⟩ := ck_two hrs9 (.int .i64 0) (.slice none 0 0)
            obtain ⟨e1, e2, e3⟩ := ck_end hK9 hrs9 (.int .i64 0) (.slice none 0 0)
            go_wp2_with fail
            refine ⟨by simp, .inl ⟨_, _, rfl, run_takeDeferred e1, ?_⟩⟩
            refine ⟨.tuple #[.agg #[.int .i64 0, .slice none 0 0], .bool false], ?res, _, rfl, Kd.R_nil _ _ _ _ _, ck_out hB9 (Nat.le_refl _) hDw hK9 hDne _ _⟩
            case res =>
              unfold results
              simp only [Tryd.f25]
              go_simp
      case body =>
        rintro l pre x W ⟨⟨⟨hbe, hle⟩, vc, hpv, hrow⟩, hB⟩ hlt
        have hgs : gs < W7.heap.size ∧ gs ≠ W2.heap.size := ⟨by omega, by omega⟩
        obtain ⟨R, hRI⟩ : ∃ R : World → Prop, R = fun W' => KeepsFrom W7.heap.size W W' ∧ CkBeside W2.heap.size W7.heap.size W W' ∧ ((CkBeside W2.heap.size W7.heap.size W7 W' ∧ W7.heap.size ≤ W'.heap.size) ∧ ∃ vc, W'.heap[W2.heap.size]? = some (.cells #[.int .i64 (rdOf 0 t 0), vc] 32 (0, 0)) ∧ Kd.R k51 51 W' W7.heap.size (fun _ => True) vc ((pre ++ [x]).map (fun x => piBridge t x.val))) ∧ Below w.heap.size w W' := ⟨_, rfl⟩
        refine wpIn_mono (Q := ckPost R) ?_ (ckPost_to (fun W' h => by rw [hRI] at h; exact h))
        have hfold : (pre ++ [x]).map (fun x => piBridge t x.val) = pre.map (fun x => piBridge t x.val) ++ [piBridge t x.val] := by simp
        rw [hfold] at hRI
        have hpl : pre.length ≤ 100000000 := by omega
        have hpl2 : (pre.map (fun x => piBridge t x.val)).length ≤ 100000000 := by rw [List.length_map]; exact hpl
        generalize pre.map (fun x => piBridge t x.val) = ps at hRI hrow hpl2
        clear hfold hpl
        have hxl := x.isLt
        have hcell : ∀ i, 1 + 3 * x.val ≤ i → i < 1 + 3 * x.val + 3 → W.cell? ⟨gs, i, none⟩ = some (.int .i64 (rdOf 0 t (i : Int))) := fun i h1 h2 => by
          obtain ⟨ad', e', hx'⟩ := Kd.at_int hC7 (i : Int) (by omega) (by omega)
          cases e'
          rw [Int.toNat_natCast] at hx'
          have h3 : (⟨gs, 0, none⟩ : Addr).add i = ⟨gs, i, none⟩ := by rw [ck_add, Nat.zero_add]
          rw [h3] at hx'
          exact (hbe.cell (p := ⟨gs, i, none⟩) hgs.1 hgs.2).trans hx'
        obtain ⟨Av, cv, rfl⟩ := Kd.R_slice hrow
        obtain ⟨j, hj⟩ : ∃ j, x.val = j := ⟨_, rfl⟩
        have hl0 := hcell (1 + 3 * x.val) (by omega) (by omega)
        have hl1 := hcell (1 + 3 * x.val + 1) (by omega) (by omega)
        have hl2 := hcell (1 + 3 * x.val + 2) (by omega) (by omega)
        have hv1 := (ck_cells hpv).2
        unfold piBridge at hRI
        dsimp only
        rw [hj] at hRI hl0 hl1 hl2 ⊢
        generalize rdOf 0 t ((1 + 3 * j : Nat) : Int) = x0 at hRI hl0
        generalize rdOf 0 t ((1 + 3 * j + 1 : Nat) : Int) = x1 at hRI hl1
        generalize rdOf 0 t ((1 + 3 * j + 2 : Nat) : Int) = x2 at hRI hl2
        have HRI := am hRI
        have HROW := am hrow
        have HBE := am hbe
        have HPV := am hpv
        have HBB := am hB
        have HLE := am hle
        have HP := am hpl2
        clear hcell hRI hrow hbe hpv hB hst hC7 hp7 hr7 hx7 hy7 hB7 hlt hT2 hB2 hC hb hR hG hres2 hB1 hq0 hsl hadm hcap hle hpl2
        gi_upto_region 7 with (fail)
        refine ck_mild_region (by kernel_rfl) (n := 16) (S := (fun w' => w'.cell? ⟨W2.heap.size, 1, none⟩ = some (.slice Av ps.length cv) ∧ w'.cell? ⟨gs, 1 + 3 * j, none⟩ = some (.int .i64 x0) ∧ w'.cell? ⟨gs, 1 + 3 * j + 1, none⟩ = some (.int .i64 x1) ∧ w'.cell? ⟨gs, 1 + 3 * j + 2, none⟩ = some (.int .i64 x2) ∧ True)) (ds := [13, 15]) #[false, false, false, false, false, false, false, false, false, false, false, false, false, false, false, false] (by kernel_rfl) rfl rfl ⟨hv1, hl0, hl1, hl2, trivial⟩ (fun hHeld => ?_)
        refine pure_ (i := 0) (N := some 30) (v := ?_) (a' := ?_) #[true, false, false, false, false, false, false, false, false, false, false, false, false, false, false, false] rfl rfl (by kernel_rfl) (fun _ _ _ h => h) (Or.inl ⟨by rfl, ?_⟩) ?_ ?_
        rotate_left
        ·intro w'
         go_simp
         with_reducible rfl
        rotate_left
        ·simp only [Act.put, List.setIfInBounds_toArray, List.set_cons_zero, List.set_cons_succ, i64_w, i32_w]
         rfl
        refine take_ (i := 1) (N := some 31) (v := ?_) (a' := ?_) #[true, true, false, false, false, false, false, false, false, false, false, false, false, false, false, false] rfl rfl (by kernel_rfl) (fun _ _ _ h => h) (Or.inl ⟨by rfl, ?_⟩) hHeld ?_ ?_
        rotate_left
        ·rintro w' ⟨s0, s1, s2, s3, s4⟩
         go_simp
         with_reducible rfl
        rotate_left
        ·simp only [Act.put, List.setIfInBounds_toArray, List.set_cons_zero, List.set_cons_succ, i64_w, i32_w]
         rfl
        refine pure_ (i := 2) (N := some 32) (v := ?_) (a' := ?_) #[true, true, true, false, false, false, false, false, false, false, false, false, false, false, false, false] rfl rfl (by kernel_rfl) (fun _ _ _ h => h) (Or.inl ⟨by rfl, ?_⟩) ?_ ?_
        rotate_left
        ·intro w'
         go_simp
         with_reducible rfl
        rotate_left
        ·simp only [Act.put, List.setIfInBounds_toArray, List.set_cons_zero, List.set_cons_succ, i64_w, i32_w]
         rfl
        refine pure_ (i := 3) (N := some 33) (v := ?_) (a' := ?_) #[true, true, true, true, false, false, false, false, false, false, false, false, false, false, false, false] rfl rfl (by kernel_rfl) (fun _ _ _ h => h) (Or.inl ⟨by rfl, ?_⟩) ?_ ?_
        rotate_left
        ·intro w'
         go_simp
         with_reducible rfl
        rotate_left
        ·simp only [Act.put, List.setIfInBounds_toArray, List.set_cons_zero, List.set_cons_succ, i64_w, i32_w]
         rfl
        refine take_ (i := 4) (N := some 34) (v := ?_) (a' := ?_) #[true, true, true, true, true, false, false, false, false, false, false, false, false, false, false, false] rfl rfl (by kernel_rfl) (fun _ _ _ h => h) (Or.inl ⟨by rfl, ?_⟩) hHeld ?_ ?_
        rotate_left
        ·rintro w' ⟨s0, s1, s2, s3, s4⟩
         go_simp
         with_reducible rfl
        rotate_left
        ·simp only [Act.put, List.setIfInBounds_toArray, List.set_cons_zero, List.set_cons_succ, i64_w, i32_w]
         rfl
        refine pure_ (i := 5) (N := some 35) (v := ?_) (a' := ?_) #[true, true, true, true, true, true, false, false, false, false, false, false, false, false, false, false] rfl rfl (by kernel_rfl) (fun _ _ _ h => h) (Or.inl ⟨by rfl, ?_⟩) ?_ ?_
        rotate_left
        ·intro w'
         go_simp
         with_reducible rfl
        rotate_left
        ·simp only [Act.put, List.setIfInBounds_toArray, List.set_cons_zero, List.set_cons_succ, i64_w, i32_w]
         rfl
        refine pure_ (i := 6) (N := some 36) (v := ?_) (a' := ?_) #[true, true, true, true, true, true, true, false, false, false, false, false, false, false, false, false] rfl rfl (by kernel_rfl) (fun _ _ _ h => h) (Or.inl ⟨by rfl, ?_⟩) ?_ ?_
        rotate_left
        ·intro w'
         go_simp
         with_reducible rfl
        rotate_left
        ·simp only [Act.put, List.setIfInBounds_toArray, List.set_cons_zero, List.set_cons_succ, i64_w, i32_w]
         rfl
        refine take_ (i := 7) (N := some 37) (v := ?_) (a' := ?_) #[true, true, true, true, true, true, true, true, false, false, false, false, false, false, false, false] rfl rfl (by kernel_rfl) (fun _ _ _ h => h) (Or.inl ⟨by rfl, ?_⟩) hHeld ?_ ?_
        rotate_left
        ·rintro w' ⟨s0, s1, s2, s3, s4⟩
         go_simp
         with_reducible rfl
        rotate_left
        ·simp only [Act.put, List.setIfInBounds_toArray, List.set_cons_zero, List.set_cons_succ, i64_w, i32_w]
         rfl
        refine pure_ (i := 8) (N := some 38) (v := ?_) (a' := ?_) #[true, true, true, true, true, true, true, true, true, false, false, false, false, false, false, false] rfl rfl (by kernel_rfl) (fun _ _ _ h => h) (Or.inl ⟨by rfl, ?_⟩) ?_ ?_
        rotate_left
        ·intro w'
         go_simp
         with_reducible rfl
        rotate_left
        ·simp only [Act.put, List.setIfInBounds_toArray, List.set_cons_zero, List.set_cons_succ, i64_w, i32_w]
         rfl
        refine pure_ (i := 9) (N := some 39) (v := ?_) (a' := ?_) #[true, true, true, true, true, true, true, true, true, true, false, false, false, false, false, false] rfl rfl (by kernel_rfl) (fun _ _ _ h => h) (Or.inl ⟨by rfl, ?_⟩) ?_ ?_
        rotate_left
        ·intro w'
         go_simp
         with_reducible rfl
        rotate_left
        ·simp only [Act.put, List.setIfInBounds_toArray, List.set_cons_zero, List.set_cons_succ, i64_w, i32_w]
         rfl
        refine take_ (i := 10) (N := some 40) (v := ?_) (a' := ?_) #[true, true, true, true, true, true, true, true, true, true, true, false, false, false, false, false] rfl rfl (by kernel_rfl) (fun _ _ _ h => h) (Or.inl ⟨by rfl, ?_⟩) hHeld ?_ ?_
        rotate_left
        ·rintro w' ⟨s0, s1, s2, s3, s4⟩
         go_simp
         with_reducible rfl
        rotate_left
        ·simp only [Act.put, List.setIfInBounds_toArray, List.set_cons_zero, List.set_cons_succ, i64_w, i32_w]
         rfl
        refine pure_ (i := 11) (N := some 41) (v := ?_) (a' := ?_) #[true, true, true, true, true, true, true, true, true, true, true, true, false, false, false, false] rfl rfl (by kernel_rfl) (fun _ _ _ h => h) (Or.inl ⟨by rfl, ?_⟩) ?_ ?_
        rotate_left
        ·intro w'
         go_simp
         with_reducible rfl
        rotate_left
        ·simp only [Act.put, List.setIfInBounds_toArray, List.set_cons_zero, List.set_cons_succ, i64_w, i32_w]
         rfl
        refine one_ (i := 12) (N := some 42) #[true, true, true, true, true, true, true, true, true, true, true, true, true, false, false, false] rfl rfl (by kernel_rfl) (by decide) (fun K hK => ?_)
        refine value_ (w1 := ?_) (v := ?_) (by rfl) rfl ?_ ?_
        rotate_left 2
        ·go_simp
         constructor
         ·rfl
         ·rfl
        refine hK.out _ _ ⟨(World.cell?_alloc_lt _ _ _ (World.block_lt_of_cell? _ _ (hHeld.1))).trans (hHeld.1), (World.cell?_alloc_lt _ _ _ (World.block_lt_of_cell? _ _ (hHeld.2.1))).trans (hHeld.2.1), (World.cell?_alloc_lt _ _ _ (World.block_lt_of_cell? _ _ (hHeld.2.2.1))).trans (hHeld.2.2.1), (World.cell?_alloc_lt _ _ _ (World.block_lt_of_cell? _ _ (hHeld.2.2.2.1))).trans (hHeld.2.2.2.1), trivial⟩ (fun hHeld => ?_)
        clear hK K
        refine norm_ (a' := ?_) ?_ ?_
        rotate_left
        ·show Act.put _ (some 42) _ = _
         simp only [Act.put, List.setIfInBounds_toArray, List.set_cons_zero, List.set_cons_succ, i64_w, i32_w]
         rfl
        refine last_ (i := 13) (N := some 43) #[true, true, true, true, true, true, true, true, true, true, true, true, true, true, false, false] rfl rfl (by kernel_rfl) (by decide) (fun K hK => ?_)
        refine Kd.R_append_step k51 (W := W.drew) (w0 := W.drew) W7.heap.size (by rfl) (.tmp 31) (.tmp 42) 30 51 (.agg #[(.int .i64 0), (.int .i64 0), (.int .i64 0)]) 24 rfl Tryd.underlying30 info51 rfl (by decide) (by omega) (.slice Av ps.length cv) ps (⟨x0, x1, x2⟩ : S51) [.int .i64 x0, .int .i64 x1, .int .i64 x2] (fun _ => True) (fun _ => False) rfl rfl ?aP (fun _ hk => hk.elim) (fun _ _ => trivial) ?aO ?aB ?aS ?aL ?_
        (case aP => exact k51_mkM _ _ _ (⟨x0, x1, x2⟩ : S51))
        (case aO => exact Kd.R_drew HROW.out)
        (case aB => exact Below.refl _ _)
        (case aS => exact HLE.out)
        (case aL => have := HP.out; omega)
        intro v1 w1 ho hb hg hat
        have hps : w1.heap[W2.heap.size]? = some (.cells #[.int .i64 (rdOf 0 t 0), .slice Av ps.length cv] 32 (0, 0)) := (hb.block W2.heap.size (by omega)).trans HPV.out
        have hty := Kd.R_typed HROW.out
        have hko : KeepsOthers W.drew w1 := KeepsOthers.of_grownBy hg (fun j o e h => by obtain ⟨cells, hc⟩ := hty j e.symm.symm; have h' : W.heap[j]? = some o := h; rw [hc] at h'; cases h'; rfl)
        obtain ⟨A1, c1, rfl⟩ := Kd.R_slice ho
        have q1 := (ck_cells hps).2
        have q2 := blk_frozen hps 1
        refine hK.out _ _ ?_
        clear hK K
        refine norm_ (a' := ?_) ?_ ?_
        rotate_left
        ·show Act.put _ (some 43) _ = _
         simp only [Act.put, List.setIfInBounds_toArray, List.set_cons_zero, List.set_cons_succ, i64_w, i32_w]
         rfl
        refine pure_ (i := 14) (N := some 44) (v := ?_) (a' := ?_) #[true, true, true, true, true, true, true, true, true, true, true, true, true, true, true, false] rfl rfl (by kernel_rfl) (fun _ _ _ h => h) (Or.inl ⟨by rfl, ?_⟩) ?_ ?_
        rotate_left
        ·intro w'
         go_simp
         with_reducible rfl
        rotate_left
        ·simp only [Act.put, List.setIfInBounds_toArray, List.set_cons_zero, List.set_cons_succ, i64_w, i32_w]
         rfl
        refine last_ (i := 15) (N := none) #[true, true, true, true, true, true, true, true, true, true, true, true, true, true, true, true] rfl rfl (by kernel_rfl) (by decide) (fun K hK => ?_)
        refine skip_ (w1 := ?_) (by rfl) rfl ?_ ?_
        rotate_left
        ·go_simp
         rfl
        refine hK.out _ _ ?_
        clear hK K
        refine done_ (by kernel_rfl) (CkNout.normal ?_)
        gi_wp2
        show R _
        rw [HRI.out]
        have hkf : KeepsFrom W7.heap.size W (w1.setCell ⟨W2.heap.size, 1, none⟩ (.slice A1 (ps.length + 1) c1)) := (((KeepsOthers.drew W).trans hko).trans (KeepsOthers.setCell _ _ _)).from _
        have hbs : CkBeside W2.heap.size W7.heap.size W (w1.setCell ⟨W2.heap.size, 1, none⟩ (.slice A1 (ps.length + 1) c1)) := fun k hk hn => (Below.heap_setCell _ _ _ _ hn).trans (hb.block k hk)
        rw [List.length_append, List.length_singleton] at ho
        refine ⟨hkf, hbs, ⟨⟨HBE.out.trans hbs, Nat.le_trans HLE.out hkf.size⟩, _, blk_put hps 1 _ rfl, Kd.R_set ho hps (by decide) _ _⟩, below_set ((below_drew HBB.out).trans (hb.mono (by omega))) (by omega)⟩
end Go.Proofs.YtncdecmcdlfmmaaDoor.X
end
