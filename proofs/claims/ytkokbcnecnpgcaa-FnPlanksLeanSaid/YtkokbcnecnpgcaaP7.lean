import Derived.Test.YtkokbcnecnpgcaaP4
import Derived.Test.YtkokbcnecnpgcaaP5
import Derived.Test.YtkokbcnecnpgcaaP6
import Derived.Lib.SliceRun
section
/- impl.PrimeLeans: slices.DeleteFunc over rows, with a literal that looks into each row (IndexFunc and DeleteFunc walked here). -/
--! fn impl.PrimeLeans|impl_PrimeLeans|rounds|making|form 0 N
--! uses impl.LeansUpTo; impl.PrimeLeans$1
namespace Go.Proofs.Ytkokbcnecnpgcaa.X
open Go.Proofs.Ytkokbcnecnpgcaa.Sq Go.RowKit Go.Proofs.YtkokbcnecnpgcaaW.PrintWords Go.Proofs.YtkokbcnecnpgcaaW.PrintLast Go.Proofs.YtkokbcnecnpgcaaW.PrintMore
attribute [local go_sem] max2_int min2_int max_two min_two max_three min_three max_four min_four   -- for this text's walks alone
set_option linter.unusedVariables false
set_option linter.unusedSimpArgs false
def keepP (k : Nat) : List (List Int) → Option (List (List Int))
 | [] => some []
 | x :: xs => (impl_PrimeLeans_1.f k x).bind fun b => (keepP k xs).bind fun ys => some (if b = true then ys else x :: ys)
def impl_PrimeLeans.f (k : Nat) (a0 : Int) : Option (List (List Int) × Bool) := (impl_LeansUpTo.f k a0).bind fun p => if p.1.length ≤ 1000000 then (keepP k p.1).bind fun ys => some (ys, p.2) else none
theorem keepP.mono (k : Nat) : ∀ l, LeO (keepP k l) (keepP (k + 1) l)
 | [] => LeO.refl _
 | x :: xs => by
  unfold keepP
  exact LeO.bind (impl_PrimeLeans_1.mono _ _) (fun _ => LeO.bind (keepP.mono k xs) (fun _ => LeO.refl _))
def delP (k : Nat) (x : List Int) : Bool := (impl_PrimeLeans_1.f k x).getD false
theorem keepP_spec (k : Nat) : ∀ l ys, keepP k l = some ys → (∀ x ∈ l, impl_PrimeLeans_1.f k x = some (delP k x)) ∧ ys = l.filter (fun x => !delP k x)
 | [], ys, h => by
  unfold keepP at h
  obtain rfl := Option.some.inj h
  exact ⟨fun _ hx => (List.not_mem_nil hx).elim, rfl⟩
 | x :: xs, ys, h => by
  unfold keepP at h
  obtain ⟨b, hb, h⟩ := Option.bind_eq_some_iff.1 h
  obtain ⟨zs, hz, h⟩ := Option.bind_eq_some_iff.1 h
  obtain ⟨h1, h2⟩ := keepP_spec k xs zs hz
  have hd : delP k x = b := by unfold delP; rw [hb]; rfl
  refine ⟨fun y hy => ?_, ?_⟩
  · rcases List.mem_cons.1 hy with rfl | hy
    · rw [hd]; exact hb
    · exact h1 y hy
  · rw [List.filter_cons, hd, ← h2]
    cases b
    · exact (Option.some.inj h).symm
    · exact (Option.some.inj h).symm
theorem N_tail {α : Type} {d : Kd α} {e : TypeId} {W : World} {base : Nat} {ok : Nat → Prop} {g m c : Nat} {xs : List α} (h : Kd.N d e W base ok (.slice (some ⟨g, 0, none⟩) m c) xs) (vs : List Value) (o : Nat) (ho : m * d.sz ≤ o) (hov : o + vs.length ≤ c * d.sz) :
    Kd.N d e (W.setCells g o vs) base ok (.slice (some ⟨g, 0, none⟩) m c) xs ∧ W.grownBy (W.setCells g o vs) (some g) ∧ ∀ j, j < vs.length → (W.cell? ⟨g, o + j, none⟩).isSome = true ∧ W.frozen? ⟨g, o + j, none⟩ = false := by
  obtain ⟨h0, rows, hl, hR, hf⟩ := h
  have hgo : some g = (Value.slice (some ⟨g, 0, none⟩) m c).ownBlock := by simp [Value.ownBlock]
  have key : (Kd.raw d.sz).R e (W.setCells g o vs) base (fun k => some k = (Value.slice (some ⟨g, 0, none⟩) m c).ownBlock) (.slice (some ⟨g, 0, none⟩) m c) rows ∧ W.grownBy (W.setCells g o vs) (some g) ∧ ∀ j, j < vs.length → (W.cell? ⟨g, o + j, none⟩).isSome = true ∧ W.frozen? ⟨g, o + j, none⟩ = false := by
    obtain ⟨hn, _, _⟩ := Kd.R_reads' hR
    obtain ⟨hok, inner, hown, hr⟩ := hR
    rcases hown.2 with ⟨hv, _⟩ | ⟨g', cap', cur, hv, hb, hh, h1, h2, h3, h4⟩
    · cases hv
    injection hv with ha _ hc
    injection ha with ha
    injection ha with hg
    subst hg; subst hc
    have h3' : cur.size = c * d.sz := h3
    obtain ⟨cur', h5, h6, h7⟩ := setCells_row vs o W cur hh (by omega)
    obtain ⟨s1, s2, s3, s4⟩ := setCells_same g vs o W
    have hfar : ∀ k', k' ≠ g → (W.setCells g o vs).heap[k']? = W.heap[k']? := fun k' hk' => setCells_far vs o k' hk'
    refine ⟨⟨hok, inner, ⟨hown.1, .inr ⟨g, c, cur', by rw [hn], hb, h5, h1, h2, by rw [h6, h3], ?_⟩⟩, hr⟩, ⟨s1, s2, s3, by rw [s4]; exact Nat.le_refl _, fun k' _ hk' => hfar k' (fun he => hk' (by rw [he]))⟩, fun j hj => ⟨?_, blk_frozen hh _⟩⟩
    · have hxo : rows.length * d.sz ≤ o := by rw [← hn]; exact ho
      have hol : o ≤ cur.size := by omega
      show (List.take (rows.length * d.sz) cur'.toList) = _
      rw [h7, List.append_assoc, List.take_append_of_le_length (l₁ := List.take o cur.toList) (by have e : cur.toList.length = cur.size := Array.length_toList; rw [List.length_take, e, Nat.min_eq_left hol]; exact hxo), List.take_take, Nat.min_eq_left hxo]
      exact h4
    · rw [cell_of_row W g _ cur e (0, 0) hh]
      simp
      omega
  obtain ⟨k1, k2, k3⟩ := key
  exact ⟨⟨h0, rows, hl, k1, fun j x c' hx hc => Kd.FK_step (hf j x c' hx hc) (fun b hb hlt => k2.block b hlt (by rw [hgo]; exact hb.2))⟩, k2, k3⟩
def idxP (k : Nat) (xs : List (List Int)) : Int := match xs.findIdx? (delP k) with
 | some j => (j : Int)
 | none => -1
abbrev kRow : Kd (List Int) := Kd.slice 3 (Kd.int .i64)
theorem getD_mem' {xs : List (List Int)} {j : Nat} (h : j < xs.length) : rd_L2 xs (j : Int) ∈ xs := by
  unfold rd_L2
  rw [Int.toNat_natCast, List.getD_eq_getElem?_getD, List.getElem?_eq_getElem h]
  exact List.getElem_mem _
theorem rd_at {xs : List (List Int)} {j : Nat} (h : j < xs.length) : rd_L2 xs (j : Int) = xs[j] := by
  unfold rd_L2
  rw [Int.toNat_natCast, List.getD_eq_getElem?_getD, List.getElem?_eq_getElem h]
  rfl
theorem idxP_at {k : Nat} {xs : List (List Int)} {j : Nat} (h : j < xs.length) (h1 : delP k (rd_L2 xs (j : Int)) = true) (h2 : ∀ i, i < j → delP k (rd_L2 xs (i : Int)) = false) : idxP k xs = (j : Int) := by
  have h3 : xs.findIdx? (delP k) = some j := List.findIdx?_eq_some_iff_getElem.2 ⟨h, by rw [← rd_at h]; exact h1, fun i hi => by
    have h4 := h2 i hi
    rw [rd_at (by omega)] at h4
    rw [h4]
    decide⟩
  unfold idxP
  rw [h3]
theorem idxP_no {k : Nat} {xs : List (List Int)} (h2 : ∀ i, i < xs.length → delP k (rd_L2 xs (i : Int)) = false) : idxP k xs = -1 := by
  have h3 : xs.findIdx? (delP k) = none := List.findIdx?_eq_none_iff.2 (fun x hx => by
    obtain ⟨i, hi, rfl⟩ := List.getElem_of_mem hx
    rw [← rd_at hi]
    exact h2 i hi)
  unfold idxP
  rw [h3]
set_option maxHeartbeats 2000000 in
set_option maxRecDepth 100000 in
theorem pl_index (k : Nat) (A : Option Addr) (c : Nat) (xs : List (List Int)) (w : World) (hr : Kd.C kRow w A xs.length xs) (hc : xs.length ≤ c) (hl : xs.length ≤ 1000000) (hall : ∀ x ∈ xs, impl_PrimeLeans_1.f k x = some (delP k x)) :
    Calls Try.prog 54 #[.slice A xs.length c, .func (.func 43) #[] #[]] w fun e w' => e = .returned (.int .i64 (idxP k xs)) ∧ Below w.heap.size w w' := by
  have HR := am hr
  have HALL := am hall
  clear hr hall
  go_enter Try.func54, Try.ntmps54
  go_wp2_with fail
  go_loopg [5, 8] (xs.length + 1) (fun gf s5 s8 wx => ∃ j : Nat, s8 = .int .i64 (j : Int) ∧ Aside0 (j ≤ xs.length ∧ xs.length + 1 ≤ gf + j) ∧ Aside0 (∀ i, i < j → delP k (rd_L2 xs (i : Int)) = false) ∧ Aside0 (Below w.heap.size w wx))
  case atStart => exact ⟨0, rfl, ⟨by omega⟩, ⟨fun i hi => by omega⟩, ⟨Below.refl _ _⟩⟩
  case round =>
    obtain ⟨j, rfl, HJ, HD, HB⟩ := hrel
    by_cases hj : j < xs.length
    · have hji : (j : Int) < (xs.length : Int) := by omega
      have hj0 : 0 ≤ (j : Int) := by omega
      obtain ⟨ad, A0, c0, rfl, hx, hlc, hC⟩ := at_L2 (Kd.C_below HR.out HB.out) (j : Int) hj0 hji
      have hf := HALL.out _ (getD_mem' hj)
      obtain ⟨gO, rfl⟩ : ∃ gO, gk = gO + 1 := ⟨gk - 1, by have := HJ.out; omega⟩
      rw [Int.toNat_natCast] at hx
      cases hb : delP k (rd_L2 xs (j : Int)) with
      | true =>
        rw [hb] at hf
        go_wp2_with (first | (go_at_call 43; refine (impl_PrimeLeans_1.calls k A0 c0 _ _ _ hC hlc hf).mono ?_; rintro e w1 ⟨rfl, ⟨nd, rfl⟩⟩) | fail)
        go_ret
        refine ⟨?_, pw_below_drewN HB.out nd⟩
        rw [idxP_at hj hb HD.out]
        rfl
      | false =>
        rw [hb] at hf
        go_wp2_with (first | (go_at_call 43; refine (impl_PrimeLeans_1.calls k A0 c0 _ _ _ hC hlc hf).mono ?_; rintro e w1 ⟨rfl, ⟨nd, rfl⟩⟩) | fail)
        go_roundg gO
        case measure => omega
        case rel => exact ⟨j + 1, by go_num, ⟨by have := HJ.out; omega⟩, ⟨fun i hi => by rcases Nat.lt_succ_iff_lt_or_eq.1 hi with h | rfl; exact HD.out i h; exact hb⟩, ⟨pw_below_drewN HB.out nd⟩⟩
    · have hji : ¬ (j : Int) < (xs.length : Int) := by omega
      go_wp2_with fail
      go_ret
      refine ⟨?_, HB.out⟩
      rw [idxP_no (fun i hi => HD.out i (by have := HJ.out; omega))]
      rfl
theorem take_snoc {α : Type} (l : List α) (j : Nat) (h : j < l.length) : l.take (j + 1) = l.take j ++ [l[j]] := by
  rw [List.take_add_one, List.getElem?_eq_getElem h]
  rfl
theorem flt_step {k : Nat} {xs : List (List Int)} {j : Nat} (h : j < xs.length) (hb : delP k xs[j] = false) : (xs.take (j + 1)).filter (fun x => !delP k x) = (xs.take j).filter (fun x => !delP k x) ++ [xs[j]] := by
  rw [take_snoc xs j h, List.filter_append, List.filter_cons, hb]
  rfl
theorem flt_skip {k : Nat} {xs : List (List Int)} {j : Nat} (h : j < xs.length) (hb : delP k xs[j] = true) : (xs.take (j + 1)).filter (fun x => !delP k x) = (xs.take j).filter (fun x => !delP k x) := by
  rw [take_snoc xs j h, List.filter_append, List.filter_cons, hb]
  simp
theorem set_take {α : Type} (l : List α) (i : Nat) (x : α) (h : i < l.length) : (l.set i x).take (i + 1) = l.take i ++ [x] := by
  rw [List.take_set, take_snoc l i h, List.set_append_right _ _ (by rw [List.length_take]; omega), List.length_take, Nat.min_eq_left (by omega), Nat.sub_self]
  rfl
/-- What holds in a round: i are kept, j are looked at. -/
structure DelAt (k : Nat) (xs ys : List (List Int)) (i j : Nat) : Prop where
  lt : i < j
  le : j ≤ xs.length
  len : ys.length = xs.length
  kept : ys.take i = (xs.take j).filter (fun x => !delP k x)
  rest : ys.drop j = xs.drop j
theorem DelAt.at {k : Nat} {xs ys : List (List Int)} {i j : Nat} (h : DelAt k xs ys i j) (hj : j < xs.length) : rd_L2 ys (j : Int) = xs[j] := by
  have h1 : (ys.drop j)[0]? = (xs.drop j)[0]? := by rw [h.rest]
  rw [List.getElem?_drop, List.getElem?_drop, Nat.add_zero, List.getElem?_eq_getElem hj, List.getElem?_eq_getElem (by rw [h.len]; exact hj)] at h1
  rw [rd_at (by rw [h.len]; exact hj)]
  exact Option.some.inj h1
theorem DelAt.skip {k : Nat} {xs ys : List (List Int)} {i j : Nat} (h : DelAt k xs ys i j) (hj : j < xs.length) (hb : delP k xs[j] = true) : DelAt k xs ys i (j + 1) :=
  ⟨by have := h.lt; omega, hj, h.len, by rw [flt_skip hj hb]; exact h.kept, by rw [← List.drop_drop, ← List.drop_drop, h.rest]⟩
theorem DelAt.keep {k : Nat} {xs ys : List (List Int)} {i j : Nat} (h : DelAt k xs ys i j) (hj : j < xs.length) (hb : delP k xs[j] = false) : DelAt k xs (ys.set i xs[j]) (i + 1) (j + 1) := by
  have hi : i < ys.length := by have := h.lt; have := h.len; omega
  refine ⟨by have := h.lt; omega, hj, by rw [List.length_set]; exact h.len, ?_, ?_⟩
  · rw [set_take ys i _ hi, flt_step hj hb, h.kept]
  · rw [List.drop_set_of_lt (by have := h.lt; omega), ← List.drop_drop, ← List.drop_drop, h.rest]
theorem DelAt.start {k : Nat} {xs : List (List Int)} {i : Nat} (hi : i < xs.length) (h1 : delP k xs[i] = true) (h2 : ∀ j, (h : j < i) → delP k (xs[j]'(by omega)) = false) : DelAt k xs xs i (i + 1) := by
  refine ⟨by omega, hi, rfl, ?_, rfl⟩
  rw [flt_skip hi h1]
  refine (List.filter_eq_self.2 (fun x hx => ?_)).symm
  obtain ⟨j, hj, rfl⟩ := List.getElem_of_mem hx
  rw [List.length_take] at hj
  rw [List.getElem_take, h2 j (by omega)]
  rfl
theorem idxP_cases (k : Nat) (xs : List (List Int)) : (idxP k xs = -1 ∧ xs.filter (fun x => !delP k x) = xs) ∨ ∃ i : Nat, idxP k xs = (i : Int) ∧ i < xs.length ∧ DelAt k xs xs i (i + 1) := by
  unfold idxP
  cases h : xs.findIdx? (delP k) with
  | none => exact .inl ⟨rfl, List.filter_eq_self.2 (fun x hx => by rw [List.findIdx?_eq_none_iff.1 h x hx]; rfl)⟩
  | some i =>
    obtain ⟨h1, h2, h3⟩ := List.findIdx?_eq_some_iff_getElem.1 h
    exact .inr ⟨i, rfl, h1, DelAt.start h1 h2 (fun j hj => by have := h3 j hj; simpa using this)⟩
set_option maxHeartbeats 4000000 in
set_option maxRecDepth 100000 in
theorem pl_delete (k : Nat) (w0 w : World) (v : Value) (xs : List (List Int)) (hB : Below w0.heap.size w0 w) (hN : Kd.N kRow 29 w w0.heap.size (fun k_ => w0.heap.size ≤ k_) v xs) (hl : xs.length ≤ 1000000) (hall : ∀ x ∈ xs, impl_PrimeLeans_1.f k x = some (delP k x)) :
    Calls Try.prog 42 #[v, .func (.func 43) #[] #[]] w fun e w' => ∃ v' : Value, e = .returned v' ∧ Kd.N kRow 29 w' w0.heap.size (fun k_ => w0.heap.size ≤ k_) v' (xs.filter (fun x => !delP k x)) ∧ Below w0.heap.size w0 w' := by
  obtain ⟨A, c, rfl⟩ := Kd.N_slice hN
  obtain ⟨_, hlc, hC⟩ := Kd.N_reads' hN
  have hI := pl_index k A c xs w hC hlc hl hall
  have HALL := am hall
  have HN := am hN
  have HB := am hB
  clear hall hN hB hC
  rcases idxP_cases k xs with ⟨he, hf⟩ | ⟨i, he, hi, hD⟩
  · rw [he] at hI
    go_enter Try.func42, Try.ntmps42
    go_wp2_with (first | (go_at_call 54; refine hI.mono ?_; rintro e w1 ⟨rfl, hb1⟩) | fail)
    go_ret
    rw [hf]
    exact ⟨_, rfl, Kd.N_below HN.out hb1, below_step HB.out hb1⟩
  · rw [he] at hI
    obtain ⟨g, cap, hv, _, _, _⟩ := Kd.N_form HN.out (by omega)
    injection hv with hA _ hcp
    subst hA hcp
    have hii : ((i : Int) == -1) = false := by rw [beq_eq_false_iff_ne]; omega
    have hiw : IntKind.i64.wrap ((i : Int) + 1) = ((i + 1 : Nat) : Int) := by rw [i64_w]; unfold wrap64; omega
    go_enter Try.func42, Try.ntmps42
    go_wp2_with (first | (go_at_call 54; refine hI.mono ?_; rintro e w1 ⟨rfl, hb1⟩) | fail)
    have HN1 := am (Kd.N_below HN.out hb1)
    have HB1 := am (below_step HB.out hb1)
    have HD := am hD
    obtain ⟨n, hn⟩ : ∃ n, xs.length = n := ⟨_, rfl⟩
    rw [hn] at HN1 hi hl hlc ⊢
    have HNL := am hn
    clear hb1 hI hD HN HB
    go_loopg [5, 6, 7] (n + 1) (fun gf s5 s6 s7 wx => ∃ (i j : Nat) (ys : List (List Int)), s5 = .int .i64 (i : Int) ∧ s6 = .int .i64 (j : Int) ∧ Aside0 (n + 1 ≤ gf + j) ∧ Aside0 (DelAt k xs ys i j) ∧ Aside0 (Kd.N kRow 29 wx w0.heap.size (fun k_ => w0.heap.size ≤ k_) (.slice (some ⟨g, 0, none⟩) n c) ys) ∧ Aside0 (Below w0.heap.size w0 wx))
    case atStart => exact ⟨i, i + 1, xs, rfl, by go_num, ⟨by omega⟩, HD, HN1, HB1⟩
    case round =>
      clear HN1 HB1 HD
      obtain ⟨i, j, ys, rfl, rfl, HF, HD, HN, HB⟩ := hrel
      have hij := HD.out.lt
      have hyl : ys.length = n := HD.out.len.trans HNL.out
      by_cases hj : j < n
      · have hji : (j : Int) < (n : Int) := by omega
        have hj0 : 0 ≤ (j : Int) := by omega
        have hi0 : 0 ≤ (i : Int) := by omega
        have hini : (i : Int) < (n : Int) := by omega
        have hjx : j < xs.length := by rw [HNL.out]; exact hj
        obtain ⟨gO, rfl⟩ : ∃ gO, gk = gO + 1 := ⟨gk - 1, by have := HF.out; omega⟩
        have hrd := HD.out.at hjx
        obtain ⟨cj, hcj, hMj, hccj, _⟩ := Kd.N_elem HN.out [] (j : Int) hj0 hji
        obtain ⟨A0, c0, rfl, hlc0, hFj⟩ := Kd.FK_slice_open hMj
        have hx : wr.cell? ⟨g, j, none⟩ = some (.slice A0 (rd_L2 ys (j : Int)).length c0) := by
          have h1 := hccj 0 _ rfl
          rw [Nat.add_zero, Int.toNat_natCast, show kRow.sz = 1 from rfl, Nat.mul_one] at h1
          exact h1
        have hC : (Kd.int .i64).C wr A0 (rd_L2 ys (j : Int)).length (rd_L2 ys (j : Int)) := Kd.F_now hFj
        have hlc1 : (rd_L2 ys (j : Int)).length ≤ c0 := hlc0
        have hMj1 : Kd.FK kRow wr (fun k_ => w0.heap.size ≤ k_ ∧ k_ ≠ g) (rd_L2 ys (j : Int)) [.slice A0 (rd_L2 ys (j : Int)).length c0] := hMj
        rw [hrd] at hx hC hlc1 hMj1
        have hf := HALL.out _ (List.getElem_mem hjx)
        have had : (⟨g, 0, none⟩ : Addr).add j = ⟨g, j, none⟩ := by rw [add_at, Nat.zero_add]
        have hai : (⟨g, 0, none⟩ : Addr).add i = ⟨g, i, none⟩ := by rw [add_at, Nat.zero_add]
        have HM := am hMj1
        clear hccj hMj hFj hlc0 hrd hMj1
        cases hb : delP k xs[j] with
        | true =>
          rw [hb] at hf
          have HS := am (HD.out.skip hjx hb)
          go_wp2_with (first | (go_at_call 43; refine (impl_PrimeLeans_1.calls k A0 c0 _ _ _ hC hlc1 hf).mono ?_; rintro e w1 ⟨rfl, ⟨nd, rfl⟩⟩) | fail)
          go_roundg gO
          case measure => omega
          case rel => exact ⟨i, j + 1, ys, rfl, by go_num, ⟨by have := HF.out; omega⟩, HS, ⟨Kd.N_drewN HN.out nd⟩, ⟨pw_below_drewN HB.out nd⟩⟩
        | false =>
          rw [hb] at hf
          have HS := am (HD.out.keep hjx hb)
          obtain ⟨ci, hci, _, hcci, _⟩ := Kd.N_elem HN.out [] (i : Int) hi0 hini
          have HCI := am (And.intro hci hcci)
          clear hci hcci
          go_wp2_with (first
            | (go_at_call 43; refine (impl_PrimeLeans_1.calls k A0 c0 _ _ _ hC hlc1 hf).mono ?_; rintro e w1 ⟨rfl, ⟨nd, rfl⟩⟩)
            | ((with_reducible refine gate_store (t := 29) (p := 33) rfl ?_); refine Kd.N_store kRow (w0 := w0) w0.heap.size rfl rfl 29 (.tmp 33) (.tmp 32) rfl 29 (g := g) (n := n) (cap := c) (o' := i) (i : Int) 0 ys xs[j] (.slice A0 xs[j].length c0) [.slice A0 xs[j].length c0] ci (fun k_ => w0.heap.size ≤ k_) (fun k_ => w0.heap.size ≤ k_ ∧ k_ ≠ g) ?sa ?so rfl rfl ?si (by simp [Value.oneCell']) (Kd.N_drewN HN.out _) hi0 hini HCI.out.1 ?sc (Nat.le_refl _) ?sm (fun _ h => h) (pw_below_drewN HB.out _) ?_; (case sa => first | (go_simp; done) | (go_simp; rfl)); (case so => rw [Int.toNat_natCast, show kRow.sz = 1 from rfl, Nat.mul_one, Nat.add_zero]); (case si => kernel_rfl); (case sc => exact fun q u hq => (HCI.out.2 q u hq)); (case sm => rw [List.take_zero, List.nil_append, show List.drop (0 + [Value.slice A0 xs[j].length c0].length) ci = [] from List.drop_of_length_le (by rw [HCI.out.1]; exact Nat.le_refl 1), List.append_nil]; exact Kd.FK_below HM.out (pw_below_drewN (Below.refl _ _) _)); intro w2 hn2 hb2 hg2; clear hg2)
            | fail)
          go_roundg gO
          case measure => omega
          case rel =>
            refine ⟨i + 1, j + 1, ys.set i xs[j], by go_num, by go_num, ⟨by have := HF.out; omega⟩, HS, ⟨?_⟩, ⟨hb2⟩⟩
            rw [Int.toNat_natCast] at hn2
            exact hn2
      · have hji : ¬ (j : Int) < (n : Int) := by omega
        obtain rfl : j = n := by have := HD.out.le; rw [HNL.out] at this; omega
        have hkept := HD.out.kept
        rw [List.take_of_length_le (l := xs) (by rw [HNL.out]; exact Nat.le_refl _)] at hkept
        obtain ⟨i0, hi0, _, hsz0, _⟩ := info_parts info29
        have hle : i ≤ j := by omega
        have hsa := cut_to (P := Try.prog) 25 29 .i64 Try.underlying25 hi0 (some ⟨g, 0, none⟩) j c (i : Int) (by omega) (by omega) hlc
        have hsb := cut_from (P := Try.prog) 25 29 .i64 Try.underlying25 hi0 1 hsz0 (some ⟨g, 0, none⟩) j c (i : Int) (by omega) (by omega)
        rw [Int.toNat_natCast] at hsa
        rw [Int.toNat_natCast, if_neg (by omega), Option.map_some, Nat.mul_one, add_at, Nat.zero_add] at hsb
        have hT : Kd.N kRow 29 wr w0.heap.size (fun k_ => w0.heap.size ≤ k_) (.slice (some ⟨g, 0, none⟩) i c) (ys.take i) := Kd.N_take HN.out (by omega)
        obtain ⟨t1, t2, t3⟩ := N_tail hT (List.replicate (j - i) (.slice none 0 0)) i (by show i * 1 ≤ i; omega) (by rw [List.length_replicate]; show i + (j - i) ≤ c * 1; omega)
        rw [List.length_replicate] at t3
        have hzv : ∀ W, (zeroValue 29).run Try.prog W = .ok (.slice none 0 0) W := fun W => by kernel_rfl
        have hcl : ∀ ty : TypeId, (Builtin.clear_ #[25] ty #[.slice (some ⟨g, i, none⟩) (j - i) (c - i)]).run Try.prog wr = .ok (.tuple #[]) (wr.setCells g i (List.replicate (j - i) (.slice none 0 0))) := fun ty => Lib.run_clear_slice wr 25 29 ty (.slice none 0 0) Try.underlying25 hzv rfl rfl g i (j - i) (c - i) (by omega) (fun q hq => (t3 q hq).1) (fun q hq => (t3 q hq).2)
        rw [hkept] at t1
        have HT := am t1
        have HG := am t2
        clear t1 t2 t3 hT hkept
        go_wp2
        go_ret
        have hgb : w0.heap.size ≤ g := Kd.N_base HT.out g (by simp [Value.ownBlock])
        exact ⟨_, rfl, HT.out, HB.out.grown HG.out (below_size HB.out) (fun k_ e_ => by injection e_ with e_; subst e_; exact hgb)⟩
set_option maxHeartbeats 1000000 in
theorem impl_PrimeLeans.calls (k : Nat) (a0 : Int) (r1 : List (List Int)) (r2 : Bool) (w : World) (h : impl_PrimeLeans.f k a0 = some (r1, r2)) :
  Calls Try.prog 13 #[.int .i64 a0] w fun e w' => ∃ v0_ : Value, e = .returned (.tuple #[v0_, .bool r2]) ∧ Kd.N (Kd.slice 3 (Kd.int .i64)) 29 w' w.heap.size (fun k_ => (w.heap.size ≤ k_)) v0_ r1 ∧ Below w.heap.size w w' := by
  unfold impl_PrimeLeans.f at h
  obtain ⟨⟨l, b⟩, hb, h⟩ := Option.bind_eq_some_iff.1 h
  dsimp only at h
  by_cases hl : l.length ≤ 1000000
  rotate_left
  · rw [if_neg hl] at h
    cases h
  rw [if_pos hl] at h
  obtain ⟨ys, hy, h⟩ := Option.bind_eq_some_iff.1 h
  simp only [Option.some.injEq, Prod.mk.injEq] at h
  obtain ⟨rfl, rfl⟩ := h
  obtain ⟨h1, rfl⟩ := keepP_spec k l _ hy
  have HL := am hl
  have H1 := am h1
  clear hl h1 hy
  go_enter Try.func13, Try.ntmps13
  go_wp2_with (first
    | (go_at_call 11; refine (impl_LeansUpTo.calls k a0 l b w hb).mono ?_; rintro e w1 ⟨v1, rfl, hN1, hb1⟩)
    | (go_at_call 42; refine (pl_delete k w w1 v1 l hb1 hN1 HL.out H1.out).mono ?_; rintro e w2 ⟨v2, rfl, hN2, hb2⟩)
    | fail)
  go_ret2
  exact ⟨_, rfl, hN2, hb2⟩
end Go.Proofs.Ytkokbcnecnpgcaa.X
end
