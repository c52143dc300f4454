import Derived.Test.YtfoflpomfmbjoaaDoorP4
import Derived.Test.YtfoflpomfmbjoaaDoorP6
import Derived.Test.YtfoflpomfmbjoaaDoorP7
import Derived.Test.YtfoflpomfmbjoaaDoorP8
import Derived.Test.YtfoflpomfmbjoaaDoorP10
import Derived.Test.YtfoflpomfmbjoaaDoorP11
import Derived.Test.YtfoflpomfmbjoaaDoorP12
import Derived.Test.YtfoflpomfmbjoaaDoorP13
import Derived.Test.YtfoflpomfmbjoaaDoorP14
import Derived.Test.YtfoflpomfmbjoaaDoorP15
import Derived.Test.YtfoflpomfmbjoaaDoorP16
import Derived.Test.YtfoflpomfmbjoaaDoorP17
import Derived.Test.YtfoflpomfmbjoaaDoorP23
section
namespace Go.Proofs.YtfoflpomfmbjoaaDoor.X
open Go.Proofs.YtfoflpomfmbjoaaDoor.Sq Go.RowKit Go.Proofs.YtfoflpomfmbjoaaDoorW.PrintWords Go.Proofs.YtfoflpomfmbjoaaDoorW.PrintLast Go.Proofs.YtfoflpomfmbjoaaDoorW.PrintMore
attribute [local go_sem] max2_int min2_int max_two min_two max_three min_three max_four min_four   -- for this text's walks alone
set_option linter.unusedVariables false
set_option linter.unusedSimpArgs false
def rvSign (b : UInt8) : Bool := b == 111 || b == 46
def goodL (r : ByteArray) : Bool := inB (r.size : Int) 1 40 && r.data.toList.all rvSign
theorem trimS_nil (l cs : List UInt8) : Lib.trimS l cs = [] ↔ ∀ b ∈ l, cs.contains b = true := by
  have hd : ∀ l : List UInt8, l.dropWhile (cs.contains ·) = [] ↔ ∀ b ∈ l, cs.contains b = true := by
    intro l
    induction l with
    | nil => simp
    | cons a l ih =>
      by_cases h : cs.contains a = true
      · rw [List.dropWhile_cons_of_pos h, ih]
        exact ⟨(fun hl b hb => (List.mem_cons.1 hb).elim (fun e => by rw [e]; exact h) (fun hb => hl b hb)), fun hl b hb => hl b (List.mem_cons_of_mem _ hb)⟩
      · rw [List.dropWhile_cons_of_neg h]
        exact ⟨(fun hl => by cases hl), fun hl => absurd (hl a (List.mem_cons_self ..)) h⟩
  unfold Lib.trimS Lib.trimLeftS Lib.trimRightS
  rw [hd]
  constructor
  · intro h
    by_cases he : l.reverse.dropWhile (cs.contains ·) = []
    · exact fun b hb => (hd _).1 he b (List.mem_reverse.2 hb)
    · exfalso
      have h1 := List.head_mem he
      have h2 := List.head_dropWhile_not (cs.contains ·) he
      have h3 := h _ (List.mem_reverse.2 h1)
      rw [h3] at h2
      cases h2
  · intro h b hb
    have hb2 := List.mem_reverse.1 hb
    exact h b (List.mem_reverse.1 ((List.dropWhile_sublist _).subset hb2))
theorem sign_contains (b : UInt8) : [111, 46].contains b = rvSign b := by
  unfold rvSign
  simp [List.contains_cons]
  rfl
theorem IsRiver_eq (r : ByteArray) (h : r.size ≤ 9223372036854775807) : impl_IsRiver.f r = some (goodL r) := by
  unfold impl_IsRiver.f goodL
  rw [within_eq]
  simp only [Option.bind_some]
  cases inB (r.size : Int) 1 40 with
  | false => rfl
  | true =>
    rw [if_pos rfl, Bool.true_and]
    unfold strings_Trim.f
    rw [if_pos ⟨h, by decide, by decide⟩]
    simp only [Option.bind_some, Option.some.injEq]
    have hl : (⟨(Lib.trimS r.data.toList (⟨#[111, 46]⟩ : ByteArray).data.toList).toArray⟩ : ByteArray).toList = Lib.trimS r.data.toList [111, 46] := by
      rw [ByteArray.toList_eq]
    rw [hl, Bool.eq_iff_iff, beq_iff_eq, trimS_nil, List.all_eq_true]
    exact ⟨fun h b hb => by rw [← sign_contains]; exact h b hb, fun h b hb => by rw [sign_contains]; exact h b hb⟩
theorem bt_drop (r : ByteArray) (i : Nat) (h : i < r.size) : ∃ b : UInt8, bt r (i : Int) = (b.toNat : Int) ∧ r.data.toList.drop i = b :: r.data.toList.drop (i + 1) := by
  refine ⟨r[i], ?_, ?_⟩
  · unfold bt
    rw [dif_pos (by rw [Int.toNat_natCast]; exact h)]
    congr 1
  · rw [List.drop_eq_getElem_cons (by rw [data_length]; exact h)]
    rfl
theorem sign_num (b : UInt8) : rvSign b = (decide ((b.toNat : Int) = 111) || decide ((b.toNat : Int) = 46)) := by
  unfold rvSign
  have h : ∀ c : UInt8, (b == c) = decide ((b.toNat : Int) = (c.toNat : Int)) := by
    intro c
    rw [Bool.eq_iff_iff, beq_iff_eq, decide_eq_true_eq, ← UInt8.toNat_inj]
    omega
  rw [h 111, h 46]
  rfl
theorem rvGood_l0 (r : ByteArray) (hr : r.size ≤ 100) (e : Nat) : ∀ i : Nat, i + e = r.size → Ev (fun k => spec_rvGood.l0 k r (i : Int)) ((r.data.toList.drop i).all rvSign) := by
  induction e with
  | zero =>
    intro i hi
    refine Ev.step (fun k => by rw [spec_rvGood.l0]) ?_
    refine evNeg (by omega) (evSome ?_)
    rw [List.drop_of_length_le (by rw [data_length]; omega)]
    rfl
  | succ e ih =>
    intro i hi
    refine Ev.step (fun k => by rw [spec_rvGood.l0]) ?_
    obtain ⟨b, hb, hd⟩ := bt_drop r i (by omega)
    rw [hb, hd, List.all_cons, sign_num, show wrap64 ((i : Int) + 1) = ((i + 1 : Nat) : Int) from (w64 (by omega) (by omega)).trans (by omega)]
    refine evPos (by omega) (evPos (by omega) (evSplit (fun c => ?_) (fun c => evSplit (fun c2 => ?_) (fun c2 => ?_))))
    · rw [decide_eq_true c]
      simpa using ih (i + 1) (by omega)
    · rw [decide_eq_true c2, Bool.or_true]
      simpa using ih (i + 1) (by omega)
    · rw [decide_eq_false c, decide_eq_false c2]
      exact evSome rfl
theorem rvGood_ev (r : ByteArray) : Ev (fun k => spec_rvGood.f k r) (goodL r) := by
  unfold spec_rvGood.f goodL
  refine evBind0 (l1In_eq _ _ _) ?_
  cases hi : inB (r.size : Int) 1 40 with
  | false => exact evNeg (by simp) (evSome rfl)
  | true =>
    have hr : r.size ≤ 100 := by
      unfold inB at hi
      simp only [Bool.and_eq_true, decide_eq_true_eq] at hi
      omega
    have h := rvGood_l0 r hr r.size 0 (Nat.zero_add _)
    rw [List.drop_zero] at h
    exact evPos rfl (by simpa using h)
theorem goodL_len (r : ByteArray) (h : goodL r = true) : 1 ≤ r.size ∧ r.size ≤ 40 := by
  unfold goodL inB at h
  simp only [Bool.and_eq_true, decide_eq_true_eq] at h
  omega
theorem first_find (P : Nat → Bool) : ∀ (n s q : Nat), s ≤ q → q < s + n → P q = true → ∃ x, (List.range' s n).find? P = some x ∧ s ≤ x ∧ x ≤ q ∧ P x = true ∧ ∀ j, s ≤ j → j < x → P j = false
 | 0, s, q, h1, h2, _ => by omega
 | n + 1, s, q, h1, h2, h3 => by
  rw [List.range'_succ]
  cases hs : P s with
  | true => exact ⟨s, by simp [List.find?, hs], Nat.le_refl _, h1, hs, fun j h4 h5 => by omega⟩
  | false =>
    have hne : s ≠ q := fun e => by rw [e, h3] at hs; cases hs
    obtain ⟨x, e, h4, h5, h6, h7⟩ := first_find P n (s + 1) q (by omega) (by omega) h3
    refine ⟨x, by rw [List.find?_cons_of_neg (by rw [hs]; exact Bool.false_ne_true)]; exact e, by omega, h5, h6, fun j h8 h9 => ?_⟩
    by_cases hj : j = s
    · rw [hj]; exact hs
    · exact h7 j (by omega) h9
def nxP (r : ByteArray) (a : Int) (m p : Nat) : Nat := ((List.range' (p + 1) (r.size + 1 - p)).find? fun q => Lf r a q == (m : Int)).getD 0
theorem nxP_ok {r : ByteArray} {a : Int} (hr : r.size ≤ 1000) {m p : Nat} (hp : p ≤ r.size + 1) (h : Lf r a p = ((m + 1 : Nat) : Int)) : p < nxP r a m p ∧ nxP r a m p ≤ r.size + 1 ∧ ((nxP r a m p : Nat) : Int) ≤ (p : Int) + a ∧ Lf r a (nxP r a m p) = (m : Int) ∧ ∀ j, p < j → j < nxP r a m p → Lf r a j ≠ (m : Int) := by
  have hpe : p ≠ r.size + 1 := fun e => by rw [e, Lf_end hr] at h; omega
  have hpl : pl r p = true := by
    cases hb : pl r p with
    | true => rfl
    | false =>
      have := Lf_no (a := a) hr (by omega) hb
      omega
  rcases Lf_some (a := a) hr (by omega) hpl with ⟨h1, _⟩ | ⟨q, h1, h2, h3, h4, h5, _⟩
  · omega
  · obtain ⟨x, e, x1, x2, x3, x4⟩ := first_find (fun q => Lf r a q == (m : Int)) (r.size + 1 - p) (p + 1) q (by omega) (by omega) (by rw [beq_iff_eq]; omega)
    have hx : nxP r a m p = x := by unfold nxP; rw [e]; rfl
    rw [hx]
    refine ⟨by omega, by omega, by omega, by simpa using x3, fun j j1 j2 => ?_⟩
    have := x4 j (by omega) j2
    simpa using this
def wayL (r : ByteArray) (a : Int) : Nat → Nat → List Nat
 | 0, _ => []
 | m + 1, p => nxP r a m p :: wayL r a m (nxP r a m p)
theorem wayL_len (r : ByteArray) (a : Int) : ∀ m p, (wayL r a m p).length = m
 | 0, _ => rfl
 | m + 1, p => by rw [wayL, List.length_cons, wayL_len r a m]
theorem rdLf (r : ByteArray) (a : Int) (p : Nat) : rd (lfT r a (r.size + 2)) (p : Int) = Lf r a p := by unfold rd Lf; rw [Int.toNat_natCast]
theorem i1r (x : Nat) (h : x ≤ 100000) : wrap64 ((x : Int) + 1) = ((x + 1 : Nat) : Int) := (w64 (by omega) (by omega)).trans (by omega)
theorem fc_impl {r : ByteArray} {a : Int} (hr : r.size ≤ 1000) : ∀ (m p : Nat) (acc : List Int), p ≤ r.size + 1 → Lf r a p = (m : Int) → acc.length + m ≤ 10000 → Ev (fun k => impl_FirstCrossing.l0 k (lfT r a (r.size + 2)) acc (p : Int)) (acc ++ ints (wayL r a m p), true) := by
  intro m
  have hlen := lfT_len r a (r.size + 2)
  induction m with
  | zero =>
    intro p acc hp h hc
    refine Ev.step (fun k => by rw [impl_FirstCrossing.l0]) ?_
    rw [rdLf, h]
    refine evPos (by omega) (evPos (by omega) (evNeg (by omega) (evSome ?_)))
    simp [wayL, ints]
  | succ m ih =>
    intro p acc hp h hc
    obtain ⟨n1, n2, n3, n4, n5⟩ := nxP_ok hr hp h
    refine Ev.step (fun k => by rw [impl_FirstCrossing.l0]) ?_
    rw [rdLf, i1r p (by omega)]
    refine evPos (by omega) (evPos (by omega) (evPos (by omega) ?_))
    have key : ∀ e q : Nat, q + e = nxP r a m p → p < q → Ev (fun k => impl_FirstCrossing.l1 k (lfT r a (r.size + 2)) acc (p : Int) (q : Int)) (acc ++ ints (wayL r a (m + 1) p), true) := by
      intro e
      induction e with
      | zero =>
        intro q hq hpq
        refine Ev.step (fun k => by rw [impl_FirstCrossing.l1]) ?_
        have hq' : q = nxP r a m p := by omega
        rw [rdLf, rdLf, h, hq', n4, w64 (x := ((m + 1 : Nat) : Int) - 1) (by omega) (by omega)]
        refine evPos (by omega) (evPos (by omega) (evPos (by omega) (evPos (by omega) (evPos (by omega) (evPos (by omega) ?_)))))
        refine evEq (ih (nxP r a m p) (acc ++ [((nxP r a m p : Nat) : Int)]) n2 n4 (by rw [List.length_append, List.length_singleton]; omega)) ?_
        simp [wayL, ints]
      | succ e ihe =>
        intro q hq hpq
        refine Ev.step (fun k => by rw [impl_FirstCrossing.l1]) ?_
        have hne := n5 q hpq (by omega)
        rw [rdLf, rdLf, h, w64 (x := ((m + 1 : Nat) : Int) - 1) (by omega) (by omega), i1r q (by omega)]
        exact evPos (by omega) (evPos (by omega) (evPos (by omega) (evPos (by omega) (evNeg (by omega) (ihe (q + 1) (by omega) (by omega))))))
    exact key (nxP r a m p - (p + 1)) (p + 1) (by omega) (by omega)
theorem fc_spec {r : ByteArray} {a : Int} (hr : r.size ≤ 1000) : ∀ (m p : Nat) (acc : List Int), p ≤ r.size + 1 → Lf r a p = (m : Int) → acc.length + m ≤ 10000 → Ev (fun k => spec_FirstCrossing.l0 k (lfT r a (r.size + 2)) acc (p : Int)) (acc ++ ints (wayL r a m p), true) := by
  intro m
  have hlen := lfT_len r a (r.size + 2)
  induction m with
  | zero =>
    intro p acc hp h hc
    refine Ev.step (fun k => by rw [spec_FirstCrossing.l0]) ?_
    rw [rdLf, h]
    refine evPos (by omega) (evPos (by omega) (evNeg (by omega) (evSome ?_)))
    simp [wayL, ints]
  | succ m ih =>
    intro p acc hp h hc
    obtain ⟨n1, n2, n3, n4, n5⟩ := nxP_ok hr hp h
    refine Ev.step (fun k => by rw [spec_FirstCrossing.l0]) ?_
    rw [rdLf, i1r p (by omega)]
    refine evPos (by omega) (evPos (by omega) (evPos (by omega) ?_))
    have key : ∀ e q : Nat, q + e = nxP r a m p → p < q → Ev (fun k => spec_FirstCrossing.l1 k (lfT r a (r.size + 2)) acc (p : Int) (q : Int)) (acc ++ ints (wayL r a (m + 1) p), true) := by
      intro e
      induction e with
      | zero =>
        intro q hq hpq
        refine Ev.step (fun k => by rw [spec_FirstCrossing.l1]) ?_
        have hq' : q = nxP r a m p := by omega
        rw [rdLf, rdLf, h, hq', n4, w64 (x := ((m + 1 : Nat) : Int) - 1) (by omega) (by omega)]
        refine evPos (by omega) (evPos (by omega) (evPos (by omega) (evPos (by omega) (evPos (by omega) (evPos (by omega) ?_)))))
        refine evEq (ih (nxP r a m p) (acc ++ [((nxP r a m p : Nat) : Int)]) n2 n4 (by rw [List.length_append, List.length_singleton]; omega)) ?_
        simp [wayL, ints]
      | succ e ihe =>
        intro q hq hpq
        refine Ev.step (fun k => by rw [spec_FirstCrossing.l1]) ?_
        have hne := n5 q hpq (by omega)
        rw [rdLf, rdLf, h, w64 (x := ((m + 1 : Nat) : Int) - 1) (by omega) (by omega), i1r q (by omega)]
        exact evPos (by omega) (evPos (by omega) (evPos (by omega) (evPos (by omega) (evNeg (by omega) (ihe (q + 1) (by omega) (by omega))))))
    exact key (nxP r a m p - (p + 1)) (p + 1) (by omega) (by omega)
def askB (r : ByteArray) (a : Int) : Bool := goodL r && inB a 1 50
theorem ask_impl (r : ByteArray) (a : Int) (h : r.size ≤ 1000000) : impl_isCrossed.f r a = some (askB r a) := by
  unfold impl_isCrossed.f askB
  rw [IsRiver_eq r (by omega)]
  simp only [Option.bind_some]
  cases goodL r with
  | false => rfl
  | true => rw [if_pos rfl, within_eq]; rfl
theorem ask_spec (r : ByteArray) (a : Int) : Ev (fun k => spec_rvAsked.f k r a) (askB r a) := by
  unfold spec_rvAsked.f askB
  refine Ev.bind (rvGood_ev r) ?_
  cases goodL r with
  | false => exact evNeg (by simp) (evSome rfl)
  | true => exact evPos rfl (evBind0 (l1In_eq _ _ _) (evSome rfl))
theorem askB_facts {r : ByteArray} {a : Int} (h : askB r a = true) : goodL r = true ∧ 1 ≤ r.size ∧ r.size ≤ 40 ∧ 1 ≤ a ∧ a ≤ 50 := by
  unfold askB inB at h
  simp only [Bool.and_eq_true, decide_eq_true_eq] at h
  have := goodL_len r h.1
  exact ⟨h.1, by omega, by omega, by omega, by omega⟩
def canB (r : ByteArray) (a : Int) : Bool := decide (0 ≤ Lf r a 0)
theorem can_impl {r : ByteArray} {a : Int} (h : askB r a = true) : Ev (fun k => impl_canCross.f k r a) (canB r a) := by
  obtain ⟨_, h1, h2, h3, h4⟩ := askB_facts h
  unfold impl_canCross.f
  refine Ev.bind (leapsLeft_ev r (by omega) a (by omega) (by omega)) (evPos (by rw [lfT_len]; omega) (evSome ?_))
  have := rdLf r a 0
  unfold canB
  rw [← this]
  rfl
theorem can_spec {r : ByteArray} {a : Int} (h : askB r a = true) : Ev (fun k => spec_rvCan.f k r a) (canB r a) := by
  obtain ⟨_, h1, h2, h3, h4⟩ := askB_facts h
  unfold spec_rvCan.f
  refine Ev.bind (rvLeft_ev r (by omega) a (by omega) (by omega)) (evPos (by rw [lfT_len]; omega) (evSome ?_))
  have := rdLf r a 0
  unfold canB
  rw [← this]
  rfl
def farN (r : ByteArray) (a : Nat) : Nat → Nat
 | 0 => 0
 | p + 1 => if pl r (p + 1) = true ∧ p + 1 - farN r a p ≤ a then p + 1 else farN r a p
theorem farN_succ (r : ByteArray) (a p : Nat) : farN r a (p + 1) = if pl r (p + 1) = true ∧ p + 1 - farN r a p ≤ a then p + 1 else farN r a p := rfl
theorem farN_le (r : ByteArray) (a : Nat) : ∀ p, farN r a p ≤ p
 | 0 => Nat.le_refl _
 | p + 1 => by
  unfold farN
  have := farN_le r a p
  split <;> omega
theorem farN_mono (r : ByteArray) (a : Nat) (p : Nat) : ∀ d, farN r a p ≤ farN r a (p + d)
 | 0 => Nat.le_refl _
 | d + 1 => by
  have h1 := farN_mono r a p d
  have h2 := farN_le r a (p + d)
  show farN r a p ≤ farN r a (p + d + 1)
  rw [farN_succ]
  split <;> omega
theorem farN_idem (r : ByteArray) (a : Nat) : ∀ p, farN r a (farN r a p) = farN r a p
 | 0 => rfl
 | p + 1 => by
  by_cases h : pl r (p + 1) = true ∧ p + 1 - farN r a p ≤ a
  · have e : farN r a (p + 1) = p + 1 := if_pos h
    rw [e, e]
  · have e : farN r a (p + 1) = farN r a p := if_neg h
    rw [e]
    exact farN_idem r a p
theorem farN_pl (r : ByteArray) (a : Nat) {p : Nat} (h : farN r a p = p) : pl r p = true := by
  cases p with
  | zero => simp [pl]
  | succ p =>
    by_cases h2 : pl r (p + 1) = true ∧ p + 1 - farN r a p ≤ a
    · exact h2.1
    · have e : farN r a (p + 1) = farN r a p := if_neg h2
      have := farN_le r a p
      omega
theorem farN_hit {r : ByteArray} {a p q : Nat} (hp : farN r a p = p) (hpq : p < q) (hqa : q ≤ p + a) (hq : pl r q = true) : farN r a q = q := by
  obtain ⟨d, rfl⟩ : ∃ d, q = p + d + 1 := ⟨q - p - 1, by omega⟩
  have := farN_mono r a p d
  exact if_pos ⟨hq, by omega⟩
theorem way_pl {r : ByteArray} {a : Int} : ∀ {k q : Nat}, wayN r a k q → pl r q = true
 | 0, q, h => by
  have h' : q = r.size + 1 := h
  subst h'
  simp [pl]
 | _ + 1, _, h => h.2.1
theorem way_far {r : ByteArray} {a : Nat} : ∀ (k p : Nat), wayN r (a : Int) k p → farN r a p = p → farN r a (r.size + 1) = r.size + 1
 | 0, p, h, hp => by
  have h' : p = r.size + 1 := h
  subst h'
  exact hp
 | k + 1, p, h, hp => by
  obtain ⟨h1, h2, q, h3, h4, h5, h6⟩ := h
  exact way_far k q h6 (farN_hit hp h3 (by omega) (way_pl h6))
theorem far_way {r : ByteArray} {a : Nat} : ∀ (q k : Nat), q ≤ r.size + 1 → farN r a q = q → wayN r (a : Int) k q → ∃ k', wayN r (a : Int) k' 0 := by
  intro q
  induction q using Nat.strongRecOn with
  | _ q ih =>
    intro k hq hf hw
    cases q with
    | zero => exact ⟨k, hw⟩
    | succ q =>
      have h2 : pl r (q + 1) = true ∧ q + 1 - farN r a q ≤ a := by
        by_cases h2 : pl r (q + 1) = true ∧ q + 1 - farN r a q ≤ a
        · exact h2
        · have e : farN r a (q + 1) = farN r a q := if_neg h2
          have := farN_le r a q
          omega
      have hle := farN_le r a q
      have hid := farN_idem r a q
      exact ih (farN r a q) (by omega) (k + 1) (by omega) hid ⟨by omega, farN_pl r a hid, q + 1, by omega, hq, by omega, hw⟩
theorem can_far {r : ByteArray} (hr : r.size ≤ 1000) (a : Nat) : 0 ≤ Lf r (a : Int) 0 ↔ farN r a (r.size + 1) = r.size + 1 := by
  constructor
  · intro h
    exact way_far _ 0 (Lf_way hr (r.size + 1) 0 (by omega) h) rfl
  · intro h
    obtain ⟨k, hk⟩ := far_way (r.size + 1) 0 (Nat.le_refl _) h (show r.size + 1 = r.size + 1 from rfl)
    exact (way_Lf hr k 0 hk).1
def lastS (r : ByteArray) : Nat → Nat
 | 0 => 0
 | p + 1 => if pl r (p + 1) = true then p + 1 else lastS r p
theorem lastS_succ (r : ByteArray) (p : Nat) : lastS r (p + 1) = if pl r (p + 1) = true then p + 1 else lastS r p := rfl
theorem lastS_le (r : ByteArray) : ∀ p, lastS r p ≤ p
 | 0 => Nat.le_refl _
 | p + 1 => by
  unfold lastS
  have := lastS_le r p
  split <;> omega
theorem far_stuck (r : ByteArray) (a : Nat) (p : Nat) (h : a < lastS r p - farN r a p) : ∀ d, a < lastS r (p + d) - farN r a (p + d)
 | 0 => h
 | d + 1 => by
  have h1 := far_stuck r a p h d
  have h2 := lastS_le r (p + d)
  have h3 := farN_le r a (p + d)
  show a < lastS r (p + d + 1) - farN r a (p + d + 1)
  rw [farN_succ, lastS_succ]
  cases hp : pl r (p + d + 1) with
  | false =>
    rw [if_neg (by exact Bool.false_ne_true), if_neg (fun h => Bool.false_ne_true h.1)]
    exact h1
  | true =>
    rw [if_pos rfl, if_neg (fun hh => by have := hh.2; omega)]
    omega
theorem gapOf_ge : ∀ (L : List Nat) (m f : Int) (l : Nat), m ≤ (gapOf m f l L).1
 | [], m, f, l => Int.le_refl _
 | p :: t, m, f, l => by
  unfold gapOf
  split
  · have := gapOf_ge t ((p : Int) - (l : Int)) (l : Int) p
    omega
  · exact gapOf_ge t m f p
theorem gap_far (r : ByteArray) (a : Nat) : ∀ (d s : Nat) (m f : Int), farN r a s = lastS r s → ((gapOf m f (lastS r s) ((List.range' (s + 1) d).filter (pl r))).1 ≤ (a : Int) ↔ m ≤ (a : Int) ∧ farN r a (s + d) = lastS r (s + d))
 | 0, s, m, f, h => by
  show m ≤ (a : Int) ↔ _
  exact ⟨fun hm => ⟨hm, h⟩, fun hm => hm.1⟩
 | d + 1, s, m, f, h => by
  rw [List.range'_succ]
  have h2 := lastS_le r s
  cases hp : pl r (s + 1) with
  | false =>
    rw [List.filter_cons_of_neg (by rw [hp]; exact Bool.false_ne_true)]
    have e1 : farN r a (s + 1) = farN r a s := if_neg (fun hh => by rw [hp] at hh; exact Bool.false_ne_true hh.1)
    have e2 : lastS r (s + 1) = lastS r s := if_neg (by rw [hp]; exact Bool.false_ne_true)
    have := gap_far r a d (s + 1) m f (by rw [e1, e2, h])
    rw [e2, show s + 1 + d = s + (d + 1) by omega] at this
    exact this
  | true =>
    rw [List.filter_cons_of_pos hp]
    have e2 : lastS r (s + 1) = s + 1 := if_pos hp
    unfold gapOf
    by_cases hg : s + 1 - lastS r s ≤ a
    · have e1 : farN r a (s + 1) = s + 1 := if_pos ⟨hp, by rw [h]; exact hg⟩
      have hn : ∀ m f, ((gapOf m f (s + 1) ((List.range' (s + 1 + 1) d).filter (pl r))).1 ≤ (a : Int) ↔ m ≤ (a : Int) ∧ farN r a (s + (d + 1)) = lastS r (s + (d + 1))) := fun m f => by
        have := gap_far r a d (s + 1) m f (by rw [e1, e2])
        rw [e2, show s + 1 + d = s + (d + 1) by omega] at this
        exact this
      split
      · rw [hn]
        constructor
        · rintro ⟨_, q⟩
          exact ⟨by omega, q⟩
        · rintro ⟨_, q⟩
          exact ⟨by omega, q⟩
      · exact hn m f
    · have e1 : farN r a (s + 1) = lastS r s := by
        rw [← h]
        exact if_neg (fun hh => hg (by rw [← h]; exact hh.2))
      have hst := far_stuck r a (s + 1) (by rw [e1, e2]; omega) d
      rw [show s + 1 + d = s + (d + 1) by omega] at hst
      constructor
      · intro hle
        exfalso
        split at hle
        · have := gapOf_ge ((List.range' (s + 1 + 1) d).filter (pl r)) (((s + 1 : Nat) : Int) - ((lastS r s : Nat) : Int)) ((lastS r s : Nat) : Int) (s + 1)
          omega
        · rename_i hm
          have := gapOf_ge ((List.range' (s + 1 + 1) d).filter (pl r)) m f (s + 1)
          omega
      · rintro ⟨_, q⟩
        exfalso
        omega
theorem last_end (r : ByteArray) : lastS r (r.size + 1) = r.size + 1 := if_pos (by simp [pl])
theorem gap_can {r : ByteArray} (hr : r.size ≤ 1000) (a : Nat) : (gapOf 0 0 0 ((List.range' 1 (r.size + 1)).filter (pl r))).1 ≤ (a : Int) ↔ 0 ≤ Lf r (a : Int) 0 := by
  have := gap_far r a (r.size + 1) 0 0 0 rfl
  rw [Nat.zero_add, Nat.zero_add, last_end] at this
  rw [can_far hr]
  exact this.trans ⟨fun h => h.2, fun h => ⟨by omega, h⟩⟩
def canF (r : ByteArray) (a : Int) : Bool × Bool := if askB r a = true then (canB r a, true) else (false, false)
theorem CanCross_impl (r : ByteArray) (a : Int) (h : r.size ≤ 1000000) : Ev (fun k => impl_CanCross.f k r a) (canF r a) := by
  unfold impl_CanCross.f canF
  refine evBind0 (ask_impl r a h) ?_
  by_cases hq : askB r a = true
  · rw [if_pos hq]
    exact evPos hq (Ev.bind (can_impl hq) (evSome rfl))
  · rw [if_neg hq]
    exact evNeg hq (evSome rfl)
theorem CanCross_spec (r : ByteArray) (a : Int) : Ev (fun k => spec_CanCross.f k r a) (canF r a) := by
  unfold spec_CanCross.f canF
  refine Ev.bind (ask_spec r a) ?_
  by_cases hq : askB r a = true
  · rw [if_pos hq]
    exact evPos hq (Ev.bind (can_spec hq) (evSome rfl))
  · rw [if_neg hq]
    exact evNeg hq (evSome rfl)
def wayF (r : ByteArray) (a : Int) : List Int × Bool := if askB r a = true ∧ canB r a = true then (0 :: ints (wayL r a (Lf r a 0).toNat 0), true) else ([], false)
theorem First_impl (r : ByteArray) (a : Int) (h : r.size ≤ 1000000) : Ev (fun k => impl_FirstCrossing.f k r a) (wayF r a) := by
  have no : Ev (fun k => impl_FirstCrossing.j0 k r a true) ([], false) := Ev.step (fun k => by rw [impl_FirstCrossing.j0]) (evPos rfl (evSome rfl))
  unfold impl_FirstCrossing.f wayF
  refine evBind0 (ask_impl r a h) ?_
  by_cases hq : askB r a = true
  · obtain ⟨_, h1, h2, h3, h4⟩ := askB_facts hq
    refine evPos hq (Ev.bind (can_impl hq) ?_)
    cases hc : canB r a with
    | false => rw [if_neg (by simp)]; exact no
    | true =>
      rw [if_pos ⟨hq, rfl⟩]
      have h0 : 0 ≤ Lf r a 0 := of_decide_eq_true hc
      have hb := Lf_bound (a := a) (show r.size ≤ 1000 by omega) 0 (by omega)
      refine Ev.step (fun k => by rw [impl_FirstCrossing.j0]) (evNeg (by simp) (Ev.bind (leapsLeft_ev r (by omega) a (by omega) (by omega)) ?_))
      exact fc_impl (by omega) (Lf r a 0).toNat 0 [0] (by omega) (by omega) (by simp; omega)
  · rw [if_neg (fun hh => hq hh.1)]
    exact evNeg hq no
theorem First_spec (r : ByteArray) (a : Int) : Ev (fun k => spec_FirstCrossing.f k r a) (wayF r a) := by
  have no : Ev (fun k => spec_FirstCrossing.j0 k r a true) ([], false) := Ev.step (fun k => by rw [spec_FirstCrossing.j0]) (evPos rfl (evSome rfl))
  unfold spec_FirstCrossing.f wayF
  refine Ev.bind (ask_spec r a) ?_
  by_cases hq : askB r a = true
  · obtain ⟨_, h1, h2, h3, h4⟩ := askB_facts hq
    refine evPos hq (Ev.bind (can_spec hq) ?_)
    cases hc : canB r a with
    | false => rw [if_neg (by simp)]; exact no
    | true =>
      rw [if_pos ⟨hq, rfl⟩]
      have h0 : 0 ≤ Lf r a 0 := of_decide_eq_true hc
      have hb := Lf_bound (a := a) (show r.size ≤ 1000 by omega) 0 (by omega)
      refine Ev.step (fun k => by rw [spec_FirstCrossing.j0]) (evNeg (by simp) (Ev.bind (rvLeft_ev r (by omega) a (by omega) (by omega)) ?_))
      exact fc_spec (by omega) (Lf r a 0).toNat 0 [0] (by omega) (by omega) (by simp; omega)
  · rw [if_neg (fun hh => hq hh.1)]
    exact evNeg hq no
def leftF (r : ByteArray) (a : Int) : List Int × Bool := if askB r a = true then (lfT r a (r.size + 2), true) else ([], false)
theorem Left_impl (r : ByteArray) (a : Int) (h : r.size ≤ 1000000) : Ev (fun k => impl_LeapsLeft.f k r a) (leftF r a) := by
  unfold impl_LeapsLeft.f leftF
  refine evBind0 (ask_impl r a h) ?_
  by_cases hq : askB r a = true
  · obtain ⟨_, h1, h2, h3, h4⟩ := askB_facts hq
    rw [if_pos hq]
    exact evPos hq (Ev.bind (leapsLeft_ev r (by omega) a (by omega) (by omega)) (evSome rfl))
  · rw [if_neg hq]
    exact evNeg hq (evSome rfl)
theorem Left_spec (r : ByteArray) (a : Int) : Ev (fun k => spec_LeapsLeft.f k r a) (leftF r a) := by
  unfold spec_LeapsLeft.f leftF
  refine Ev.bind (ask_spec r a) ?_
  by_cases hq : askB r a = true
  · obtain ⟨_, h1, h2, h3, h4⟩ := askB_facts hq
    rw [if_pos hq]
    exact evPos hq (Ev.bind (rvLeft_ev r (by omega) a (by omega) (by omega)) (evSome rfl))
  · rw [if_neg hq]
    exact evNeg hq (evSome rfl)
def grdL (a : Int) (now : Int) : List Int → Int
 | [] => now
 | p :: t => if p - now ≤ a then grdL a p t else grdL a now t
theorem reach_l0 (a : Int) (L : List Int) (hL : ∀ x ∈ L, 0 ≤ x ∧ x ≤ 1000) (hlen : L.length ≤ 1000) : ∀ (e i : Nat) (now : Int), i + e = L.length → 0 ≤ now ∧ now ≤ 1000 → Ev (fun k => impl_reach.l0 k a now L (L.length : Int) (i : Int)) (grdL a now (L.drop i)) := by
  intro e
  induction e with
  | zero =>
    intro i now hi hn
    refine Ev.step (fun k => by rw [impl_reach.l0]) ?_
    refine evNeg (by omega) (evSome ?_)
    rw [List.drop_of_length_le (by omega)]
    rfl
  | succ e ih =>
    intro i now hi hn
    refine Ev.step (fun k => by rw [impl_reach.l0]) ?_
    have hx := hL (L.getD i 0) (by rw [← getElem_getD L i 0 (by omega)]; exact List.getElem_mem _)
    have er : rd L (i : Int) = L.getD i 0 := by unfold rd; rw [Int.toNat_natCast]
    rw [er, i1r i (by omega), w64 (x := L.getD i 0 - now) (by omega) (by omega), getD_drop_cons L i 0 (by omega)]
    refine evPos (by omega) (evPos (by omega) (evPos (by omega) ?_))
    unfold grdL
    by_cases h : L.getD i 0 - now ≤ a
    · rw [if_pos h]
      exact evPos h (ih (i + 1) _ (by omega) hx)
    · rw [if_neg h]
      exact evNeg h (ih (i + 1) _ (by omega) hn)
theorem grd_far (r : ByteArray) (a : Nat) : ∀ (d s : Nat), grdL (a : Int) ((farN r a s : Nat) : Int) (ints ((List.range' (s + 1) d).filter (pl r))) = ((farN r a (s + d) : Nat) : Int)
 | 0, s => rfl
 | d + 1, s => by
  have hle := farN_le r a s
  have ih := grd_far r a d (s + 1)
  rw [show s + 1 + d = s + (d + 1) by omega] at ih
  rw [List.range'_succ]
  cases hp : pl r (s + 1) with
  | false =>
    rw [List.filter_cons_of_neg (by rw [hp]; exact Bool.false_ne_true)]
    have e1 : farN r a (s + 1) = farN r a s := if_neg (fun hh => by rw [hp] at hh; exact Bool.false_ne_true hh.1)
    rw [e1] at ih
    exact ih
  | true =>
    rw [List.filter_cons_of_pos hp]
    show (if ((s + 1 : Nat) : Int) - ((farN r a s : Nat) : Int) ≤ (a : Int) then grdL (a : Int) ((s + 1 : Nat) : Int) (ints ((List.range' (s + 1 + 1) d).filter (pl r))) else grdL (a : Int) ((farN r a s : Nat) : Int) (ints ((List.range' (s + 1 + 1) d).filter (pl r)))) = _
    by_cases h : s + 1 - farN r a s ≤ a
    · have e1 : farN r a (s + 1) = s + 1 := if_pos ⟨hp, h⟩
      rw [if_pos (by omega)]
      rw [e1] at ih
      exact ih
    · have e1 : farN r a (s + 1) = farN r a s := if_neg (fun hh => h hh.2)
      rw [if_neg (by omega)]
      rw [e1] at ih
      exact ih
theorem reach_ev {r : ByteArray} {a : Nat} (hr : r.size ≤ 100) : Ev (fun k => impl_reach.f k r (a : Int)) ((farN r a (r.size + 1) : Nat) : Int) := by
  unfold impl_reach.f
  refine Ev.bind (stand_ev r hr) ?_
  have hlen : (ints (stL r)).length ≤ 102 := by
    unfold ints stL
    have := List.length_filter_le (pl r) (List.range (r.size + 2))
    rw [List.length_range] at this
    rw [List.length_map]
    omega
  have h := reach_l0 (a : Int) (ints (stL r)) (fun x hx => by
    unfold ints at hx
    obtain ⟨y, hy, rfl⟩ := List.mem_map.1 hx
    have := stL_le r y hy
    omega) (by omega) (ints (stL r)).length 0 0 (Nat.zero_add _) (by omega)
  refine evEq h ?_
  rw [List.drop_zero, stL_cons]
  show (if (0 : Int) - 0 ≤ (a : Int) then grdL (a : Int) 0 (ints ((List.range' 1 (r.size + 1)).filter (pl r))) else _) = _
  rw [if_pos (by omega)]
  have := grd_far r a (r.size + 1) 0
  rw [Nat.zero_add, Nat.zero_add] at this
  exact this
def reachF (r : ByteArray) (a : Int) : Int × Bool := if askB r a = true then (((farN r a.toNat (r.size + 1) : Nat) : Int), true) else (0, false)
theorem Reach_impl (r : ByteArray) (a : Int) (h : r.size ≤ 1000000) : Ev (fun k => impl_ReachOf.f k r a) (reachF r a) := by
  unfold impl_ReachOf.f reachF
  refine evBind0 (ask_impl r a h) ?_
  by_cases hq : askB r a = true
  · obtain ⟨_, h1, h2, h3, h4⟩ := askB_facts hq
    rw [if_pos hq]
    obtain ⟨n, rfl⟩ : ∃ n : Nat, a = (n : Int) := ⟨a.toNat, by omega⟩
    exact evPos hq (Ev.bind (reach_ev (by omega)) (evSome (by rw [Int.toNat_natCast])))
  · rw [if_neg hq]
    exact evNeg hq (evSome rfl)
def fewF (r : ByteArray) (a : Int) : Int × Bool := if askB r a = true ∧ canB r a = true then (Lf r a 0, true) else (0, false)
theorem Few_impl (r : ByteArray) (a : Int) (h : r.size ≤ 1000000) : Ev (fun k => impl_FewestLeaps.f k r a) (fewF r a) := by
  unfold impl_FewestLeaps.f fewF
  refine evBind0 (ask_impl r a h) ?_
  by_cases hq : askB r a = true
  · obtain ⟨_, h1, h2, h3, h4⟩ := askB_facts hq
    refine evPos hq (Ev.bind (can_impl hq) ?_)
    cases hc : canB r a with
    | false => rw [if_neg (by simp)]; exact evNeg (by simp) (evSome rfl)
    | true =>
      rw [if_pos ⟨hq, rfl⟩]
      refine evPos rfl (Ev.bind (leapsLeft_ev r (by omega) a (by omega) (by omega)) (evPos (by rw [lfT_len]; omega) (evSome ?_)))
      rw [← rdLf r a 0]
      rfl
  · rw [if_neg (fun hh => hq hh.1)]
    exact evNeg hq (evSome rfl)
theorem Few_spec (r : ByteArray) (a : Int) : Ev (fun k => spec_FewestLeaps.f k r a) (fewF r a) := by
  unfold spec_FewestLeaps.f fewF
  refine Ev.bind (ask_spec r a) ?_
  by_cases hq : askB r a = true
  · obtain ⟨_, h1, h2, h3, h4⟩ := askB_facts hq
    refine evPos hq (Ev.bind (can_spec hq) ?_)
    cases hc : canB r a with
    | false => rw [if_neg (by simp)]; exact evNeg (by simp) (evSome rfl)
    | true =>
      rw [if_pos ⟨hq, rfl⟩]
      refine evPos rfl (Ev.bind (rvLeft_ev r (by omega) a (by omega) (by omega)) (evPos (by rw [lfT_len]; omega) (evSome ?_)))
      rw [← rdLf r a 0]
      rfl
  · rw [if_neg (fun hh => hq hh.1)]
    exact evNeg hq (evSome rfl)
def stoL (r : ByteArray) : List Nat := (List.range' 1 r.size).filter (pl r)
theorem stL_stones (r : ByteArray) : stL r = 0 :: (stoL r ++ [r.size + 1]) := by
  rw [stL_cons]
  unfold stoL
  rw [List.range'_concat, List.filter_append]
  have : pl r (1 + 1 * r.size) = true := by
    rw [show 1 + 1 * r.size = r.size + 1 by omega]
    simp [pl]
  rw [List.filter_cons_of_pos this, List.filter_nil, show 1 + 1 * r.size = r.size + 1 by omega]
def stoF (r : ByteArray) : List Int × Bool := if goodL r = true then (ints (stoL r), true) else ([], false)
theorem stoL_len (r : ByteArray) : (stoL r).length ≤ r.size := by
  unfold stoL
  have := List.length_filter_le (pl r) (List.range' 1 r.size)
  rw [List.length_range'] at this
  exact this
theorem Stones_impl (r : ByteArray) (h : r.size ≤ 1000000) : Ev (fun k => impl_StonesOf.f k r) (stoF r) := by
  unfold impl_StonesOf.f stoF
  refine evBind0 (IsRiver_eq r (by omega)) ?_
  by_cases hg : goodL r = true
  · have h8 := goodL_len r hg
    have hl := stoL_len r
    have e : (ints (stL r)).length = (stoL r).length + 2 := by
      unfold ints
      rw [List.length_map, stL_stones]
      simp
    rw [if_pos hg]
    refine evPos hg (Ev.bind (stand_ev r (by omega)) (evPos (by omega) (evSome ?_)))
    rw [e, show (stoL r).length + 2 - 1 = (stoL r).length + 1 by omega, stL_stones]
    have : ints (0 :: (stoL r ++ [r.size + 1])) = (0 : Int) :: (ints (stoL r) ++ [((r.size + 1 : Nat) : Int)]) := by simp [ints]
    rw [this, List.take_succ_cons, List.drop_succ_cons, List.drop_zero, List.take_left' (by simp [ints])]
  · rw [if_neg hg]
    exact evNeg hg (evSome rfl)
theorem stones_l0 (r : ByteArray) (hr : r.size ≤ 100) : ∀ (e i : Nat) (acc : List Int), 1 ≤ i → i + e = r.size + 1 → acc.length + e ≤ 1000 → Ev (fun k => spec_StonesOf.l0 k r acc (i : Int)) (acc ++ ints ((List.range' i e).filter (pl r)), true) := by
  intro e
  induction e with
  | zero =>
    intro i acc h1 hi hc
    refine Ev.step (fun k => by rw [spec_StonesOf.l0]) (evNeg (by omega) (evSome ?_))
    simp [ints]
  | succ e ih =>
    intro i acc h1 hi hc
    refine Ev.step (fun k => by rw [spec_StonesOf.l0]) ?_
    rw [i1r i (by omega)]
    refine evPos (by omega) (evBind0 (rvStand_eq r hr i (by omega)) ?_)
    rw [List.range'_succ]
    cases hp : pl r i with
    | true =>
      rw [List.filter_cons_of_pos hp]
      refine evPos rfl (evPos (by omega) (evEq (ih (i + 1) _ (by omega) (by omega) (by rw [List.length_append, List.length_singleton]; omega)) ?_))
      simp [ints]
    | false =>
      rw [List.filter_cons_of_neg (by rw [hp]; exact Bool.false_ne_true)]
      exact evNeg (by simp) (ih (i + 1) acc (by omega) (by omega) (by omega))
theorem Stones_spec (r : ByteArray) : Ev (fun k => spec_StonesOf.f k r) (stoF r) := by
  unfold spec_StonesOf.f stoF
  refine Ev.bind (rvGood_ev r) ?_
  by_cases hg : goodL r = true
  · have h8 := goodL_len r hg
    rw [if_pos hg]
    exact evPos hg (stones_l0 r (by omega) r.size 1 [] (by omega) (by omega) (by simp; omega))
  · rw [if_neg hg]
    exact evNeg hg (evSome rfl)
theorem dSame_self (l : List Int) (hl : l.length ≤ 1000000000) : Ev (fun k => laws_dSame.f k l l) true := by
  unfold laws_dSame.f
  refine evPos rfl ?_
  have key : ∀ e i : Nat, i + e = l.length → Ev (fun k => laws_dSame.l0 k l l ((l.length : Nat) : Int) (i : Int)) true := by
    intro e
    induction e with
    | zero =>
      intro i hi
      refine Ev.step (fun k => by rw [laws_dSame.l0]) ?_
      exact evNeg (by omega) (evSome rfl)
    | succ e ih =>
      intro i hi
      refine Ev.step (fun k => by rw [laws_dSame.l0]) ?_
      rw [show wrap64 ((i : Int) + 1) = ((i + 1 : Nat) : Int) from (w64 (by omega) (by omega)).trans (by omega)]
      exact evPos (by omega) (evPos (by omega) (evPos (by omega) (evPos (by omega) (evPos rfl (ih (i + 1) (by omega))))))
  exact key l.length 0 (by omega)
def okB (r : ByteArray) (a : Nat) (q : Nat) : Bool := decide (farN r a q = q)
theorem ok_step {r : ByteArray} {a p : Nat} (hp : pl r (p + 1) = true) : okB r a (p + 1) = (List.range' (p + 1 - a) (p + 1 - (p + 1 - a))).any (okB r a) := by
  have hle := farN_le r a p
  by_cases h : p + 1 - farN r a p ≤ a
  · have e1 : farN r a (p + 1) = p + 1 := if_pos ⟨hp, h⟩
    unfold okB
    rw [decide_eq_true e1]
    symm
    rw [List.any_eq_true]
    exact ⟨farN r a p, List.mem_range'_1.2 ⟨by omega, by omega⟩, decide_eq_true (farN_idem r a p)⟩
  · have e1 : farN r a (p + 1) = farN r a p := if_neg (fun hh => h hh.2)
    unfold okB
    rw [decide_eq_false (show ¬ farN r a (p + 1) = p + 1 by rw [e1]; omega)]
    symm
    rw [List.any_eq_false]
    intro x hx
    obtain ⟨h1, h2⟩ := List.mem_range'_1.1 hx
    intro he
    have he' := of_decide_eq_true he
    obtain ⟨d, hd⟩ : ∃ d, p = x + d := ⟨p - x, by omega⟩
    have := farN_mono r a x d
    rw [← hd] at this
    omega
def okL (r : ByteArray) (a p : Nat) : List Bool := (List.range (r.size + 2)).map fun q => decide (q < p) && okB r a q
theorem okL_len (r : ByteArray) (a p : Nat) : (okL r a p).length = r.size + 2 := by simp [okL]
theorem okL_at (r : ByteArray) (a p q : Nat) (h : q < r.size + 2) : (okL r a p).getD q false = (decide (q < p) && okB r a q) := by
  unfold okL
  rw [getD_range_map (fun q => decide (q < p) && okB r a q) (r.size + 2) q false h]
theorem okL_set (r : ByteArray) (a p : Nat) (x : Bool) (h : x = okB r a p) : (okL r a p).set p x = okL r a (p + 1) := by
  apply List.ext_getElem
  · simp [okL]
  · intro i h1 h2
    have h3 : i < r.size + 2 := by rw [okL_len] at h2; exact h2
    rw [List.getElem_set, getElem_getD (okL r a (p + 1)) i false h2, okL_at r a (p + 1) i h3]
    by_cases hip : p = i
    · subst hip
      rw [if_pos rfl, h, decide_eq_true (by omega)]
      rfl
    · rw [if_neg hip, getElem_getD (okL r a p) i false (by rw [okL_len]; exact h3), okL_at r a p i h3]
      congr 1
      exact decide_eq_decide.2 (by omega)
theorem rdBo (l : List Bool) (i : Nat) : rdOf false l (i : Int) = l.getD i false := by unfold rdOf; rw [Int.toNat_natCast]
theorem rr_l1 {r : ByteArray} {a : Nat} (hr : r.size ≤ 100) (p : Nat) (h1 : 1 ≤ p) (hp : p ≤ r.size + 1) (hpl : pl r p = true) (R : List Bool) : ∀ (e b : Nat) (v : Bool), b + e = p → Ev (fun k => spec_rvReach.l0 k r (a : Int) ((r.size + 1 : Nat) : Int) ((okL r a p).set p (v || (List.range' b e).any (okB r a))) ((p + 1 : Nat) : Int)) R → Ev (fun k => spec_rvReach.l1 k r (a : Int) ((r.size + 1 : Nat) : Int) ((okL r a p).set p v) (p : Int) (b : Int)) R := by
  intro e
  have hl := okL_len r a p
  induction e with
  | zero =>
    intro b v hb h
    refine Ev.step (fun k => by rw [spec_rvReach.l1]) ?_
    rw [i1r p (by omega)]
    refine evNeg (by omega) ?_
    simpa using h
  | succ e ih =>
    intro b v hb h
    refine Ev.step (fun k => by rw [spec_rvReach.l1]) ?_
    rw [i1r b (by omega), i1r p (by omega), rdBo, rdBo, getD_set_same _ _ _ _ (by omega), Int.toNat_natCast, List.set_set, List.set_set]
    rw [List.range'_succ, List.any_cons] at h
    refine evPos (by omega) (evBind0 (rvStand_eq r hr p hp) (evPos hpl (evPos (by omega) (evPos (by rw [List.length_set]; omega) ?_))))
    cases v with
    | true =>
      refine evPos rfl (ih (b + 1) true (by omega) ?_)
      simpa using h
    | false =>
      refine evNeg (by simp) (evPos (by omega) (evPos (by rw [List.length_set]; omega) ?_))
      have e1 : ((okL r a p).set p false).getD b false = okB r a b := by
        rw [List.getD_eq_getElem?_getD, List.getElem?_set_ne (by omega), ← List.getD_eq_getElem?_getD, okL_at r a p b (by omega), decide_eq_true (by omega)]
        rfl
      rw [e1]
      refine ih (b + 1) (okB r a b) (by omega) ?_
      simpa using h
theorem rr_l0 {r : ByteArray} {a : Nat} (hr : r.size ≤ 100) (ha : a ≤ 1000) : ∀ (e p : Nat), 1 ≤ p → p + e = r.size + 2 → Ev (fun k => spec_rvReach.l0 k r (a : Int) ((r.size + 1 : Nat) : Int) (okL r a p) (p : Int)) (okL r a (r.size + 2)) := by
  intro e
  induction e with
  | zero =>
    intro p h1 hp
    refine Ev.step (fun k => by rw [spec_rvReach.l0]) (evNeg (by omega) (evSome ?_))
    rw [show p = r.size + 2 by omega]
  | succ e ih =>
    intro p h1 hp
    refine Ev.step (fun k => by rw [spec_rvReach.l0]) ?_
    have hl := okL_len r a p
    have hm : spec_l1Most.f 0 (wrap64 ((p : Int) - (a : Int))) = some ((p - a : Nat) : Int) := by
      rw [w64 (by omega) (by omega)]
      unfold spec_l1Most.f
      by_cases h : (0 : Int) > (p : Int) - (a : Int)
      · rw [if_pos h]
        congr 1
        omega
      · rw [if_neg h]
        congr 1
        omega
    refine evPos (by omega) (evBind0 hm ?_)
    obtain ⟨q, rfl⟩ : ∃ q, p = q + 1 := ⟨p - 1, by omega⟩
    have ih' := ih (q + 1 + 1) (by omega) (by omega)
    have hf : okL r a (q + 1) = (okL r a (q + 1)).set (q + 1) false := by
      apply List.ext_getElem
      · simp
      · intro i g1 g2
        rw [List.getElem_set]
        split
        · rename_i hi
          subst hi
          rw [getElem_getD (okL r a (q + 1)) (q + 1) false g1, okL_at r a (q + 1) (q + 1) (by omega), decide_eq_false (by omega)]
          rfl
        · rfl
    cases hpl : pl r (q + 1) with
    | true =>
      rw [hf]
      refine rr_l1 hr (q + 1) (by omega) (by omega) hpl _ (q + 1 - (q + 1 - a)) (q + 1 - a) false (by omega) ?_
      rw [Bool.false_or, okL_set r a (q + 1) _ (ok_step hpl).symm]
      exact ih'
    | false =>
      have e0 : okB r a (q + 1) = false := by
        unfold okB
        have hle := farN_le r a q
        have e1 : farN r a (q + 1) = farN r a q := if_neg (fun hh => by rw [hpl] at hh; exact Bool.false_ne_true hh.1)
        rw [e1]
        exact decide_eq_false (by omega)
      have e2 : okL r a (q + 1) = okL r a (q + 1 + 1) := by
        rw [hf]
        exact okL_set r a (q + 1) false e0.symm
      refine Ev.step (fun k => by rw [spec_rvReach.l1]) ?_
      rw [i1r (q + 1) (by omega)]
      refine evSplit (fun _ => ?_) (fun _ => ?_)
      · refine evBind0 (rvStand_eq r hr (q + 1) (by omega)) ?_
        rw [hpl, e2]
        exact evNeg (by simp) ih'
      · rw [e2]
        exact ih'
theorem okL_one (r : ByteArray) (a : Nat) : (List.replicate (r.size + 2) false).set 0 true = okL r a 1 := by
  apply List.ext_getElem
  · simp [okL_len]
  · intro i h1 h2
    have h3 : i < r.size + 2 := by rw [okL_len] at h2; exact h2
    rw [List.getElem_set, getElem_getD (okL r a 1) i false h2, okL_at r a 1 i h3]
    by_cases h : 0 = i
    · subst h
      rw [if_pos rfl]
      rfl
    · rw [if_neg h, List.getElem_replicate, decide_eq_false (by omega)]
      rfl
theorem rvReach_ev {r : ByteArray} {a : Nat} (hr : r.size ≤ 100) (ha : a ≤ 1000) : Ev (fun k => spec_rvReach.f k r (a : Int)) (okL r a (r.size + 2)) := by
  unfold spec_rvReach.f
  rw [i1r r.size (by omega), i1r (r.size + 1) (by omega), Int.toNat_natCast]
  refine evPos (by omega) (evPos (by omega) (evBind0 rfl (evPos (by simp; omega) ?_)))
  rw [show (0 : Int).toNat = 0 from rfl, okL_one r a]
  exact rr_l0 hr ha (r.size + 1) 1 (by omega) (by omega)
theorem far_l0 {r : ByteArray} {a : Nat} (hr : r.size ≤ 100) : ∀ (e i : Nat), i + e = r.size + 2 → Ev (fun k => spec_ReachOf.l0 k ((farN r a (i - 1) : Nat) : Int) (okL r a (r.size + 2)) ((r.size + 2 : Nat) : Int) (i : Int)) (((farN r a (r.size + 1) : Nat) : Int), true) := by
  intro e
  have hl := okL_len r a (r.size + 2)
  induction e with
  | zero =>
    intro i hi
    refine Ev.step (fun k => by rw [spec_ReachOf.l0]) (evNeg (by omega) (evSome ?_))
    rw [show i - 1 = r.size + 1 by omega]
  | succ e ih =>
    intro i hi
    refine Ev.step (fun k => by rw [spec_ReachOf.l0]) ?_
    rw [rdBo, okL_at r a (r.size + 2) i (by omega), decide_eq_true (by omega), Bool.true_and, i1r i (by omega)]
    have ih' := ih (i + 1) (by omega)
    rw [show i + 1 - 1 = i by omega] at ih'
    refine evPos (by omega) (evPos (by omega) (evPos (by omega) ?_))
    by_cases h : farN r a i = i
    · refine evPos (decide_eq_true h) ?_
      rw [h] at ih'
      exact ih'
    · refine evNeg (by unfold okB; rw [decide_eq_false h]; exact Bool.false_ne_true) ?_
      have e1 : farN r a i = farN r a (i - 1) := by
        cases i with
        | zero => rfl
        | succ q =>
          have hc : ¬ (pl r (q + 1) = true ∧ q + 1 - farN r a q ≤ a) := fun hh => h (if_pos hh)
          exact if_neg hc
      rw [e1] at ih'
      exact ih'
theorem Reach_spec (r : ByteArray) (a : Int) : Ev (fun k => spec_ReachOf.f k r a) (reachF r a) := by
  unfold spec_ReachOf.f reachF
  refine Ev.bind (ask_spec r a) ?_
  by_cases hq : askB r a = true
  · obtain ⟨_, h1, h2, h3, h4⟩ := askB_facts hq
    rw [if_pos hq]
    obtain ⟨n, rfl⟩ : ∃ n : Nat, a = (n : Int) := ⟨a.toNat, by omega⟩
    refine evPos hq (Ev.bind (rvReach_ev (by omega) (by omega)) ?_)
    rw [okL_len, Int.toNat_natCast]
    exact far_l0 (by omega) (r.size + 2) 0 (by omega)
  · rw [if_neg hq]
    exact evNeg hq (evSome rfl)
def gapN (r : ByteArray) : Int × Int := gapOf 0 0 0 ((List.range' 1 (r.size + 1)).filter (pl r))
theorem Least_impl (r : ByteArray) (h : goodL r = true) : Ev (fun k => impl_LeastLeap.f k r) ((gapN r).1, true) := by
  have h8 := goodL_len r h
  unfold impl_LeastLeap.f impl_LongestGap.f
  refine Ev.bind (evBind0 (IsRiver_eq r (by omega)) (evPos h (Ev.bind (longestGap_ev r (by omega)) (evSome rfl)))) (evSome rfl)
def adF (f g : Nat → Int) : Nat → Int
 | 0 => f 0
 | k + 1 => mn (wrap64 (f (k + 1) + g k)) 1000000000000001
def adP (f g : Nat → Int) (j : Nat) : Nat → Int := fun i => if 1 ≤ i ∧ i ≤ j then adF f g i else f i
def rowOf (W : Nat) (f : Nat → Int) : List Int := (List.range W).map f
def upd (G : Nat → Nat → Int) (p : Nat) (f : Nat → Int) : Nat → Nat → Int := fun q => if q = p then f else G q
def RB (W N b : Nat) (G : Nat → Nat → Int) : List (List Int) := (List.range N).map fun q => if q < b then rowOf W (G q) else []
theorem adP_zero (f g : Nat → Int) : adP f g 0 = f := by
  funext i
  unfold adP
  rw [if_neg (by omega)]
theorem adP_next (f g : Nat → Int) (j : Nat) : adP f g j (j + 1) = f (j + 1) := by
  unfold adP
  rw [if_neg (by omega)]
theorem rowOf_len (W : Nat) (f : Nat → Int) : (rowOf W f).length = W := by simp [rowOf]
theorem rd_rowOf (W : Nat) (f : Nat → Int) (i : Nat) (h : i < W) : rd (rowOf W f) (i : Int) = f i := by
  unfold rd rowOf
  rw [Int.toNat_natCast]
  exact getD_range_map f W i 0 h
theorem rowOf_congr (W : Nat) (f g : Nat → Int) (h : ∀ i, i < W → f i = g i) : rowOf W f = rowOf W g := by
  unfold rowOf
  exact List.map_congr_left (fun i hi => h i (List.mem_range.1 hi))
theorem rowOf_full (W : Nat) (f g : Nat → Int) : rowOf (W + 1) (adP f g W) = rowOf (W + 1) (adF f g) := by
  refine rowOf_congr _ _ _ (fun i hi => ?_)
  unfold adP
  split
  · rfl
  · obtain rfl : i = 0 := by omega
    rfl
theorem map_range_set {α : Type} (f g : Nat → α) (N p : Nat) (h : ∀ q, q < N → q ≠ p → f q = g q) : ((List.range N).map f).set p (g p) = (List.range N).map g := by
  apply List.ext_getElem
  · simp
  · intro i h1 h2
    have hi : i < N := by simpa using h2
    rw [List.getElem_set]
    split
    · rename_i e; subst e; simp
    · rename_i e
      simp only [List.getElem_map, List.getElem_range]
      exact h i hi (fun e' => e e'.symm)
theorem rowOf_set (W : Nat) (f g : Nat → Int) (j : Nat) : (rowOf W (adP f g j)).set (j + 1) (adF f g (j + 1)) = rowOf W (adP f g (j + 1)) := by
  have h := map_range_set (adP f g j) (adP f g (j + 1)) W (j + 1) (fun q _ hq => by
    unfold adP
    by_cases h : 1 ≤ q ∧ q ≤ j
    · rw [if_pos h, if_pos (by omega)]
    · rw [if_neg h, if_neg (by omega)])
  have e : adP f g (j + 1) (j + 1) = adF f g (j + 1) := by unfold adP; rw [if_pos (by omega)]
  rw [e] at h
  exact h
theorem rowOf_take (W V : Nat) (f : Nat → Int) (h : V ≤ W) : (rowOf W f).take V = rowOf V f := by
  unfold rowOf
  rw [← List.map_take, List.take_range, Nat.min_eq_left h]
theorem RB_len (W N b : Nat) (G : Nat → Nat → Int) : (RB W N b G).length = N := by simp [RB]
theorem RB_get (W N b : Nat) (G : Nat → Nat → Int) (p : Nat) (h : p < b) (hN : p < N) : rd_L3 (RB W N b G) (p : Int) = rowOf W (G p) := by
  unfold rd_L3 RB
  rw [Int.toNat_natCast, getD_range_map _ _ _ _ hN, if_pos h]
theorem RB_set (W N b : Nat) (G : Nat → Nat → Int) (p : Nat) (f : Nat → Int) (h : p < b) : (RB W N b G).set p (rowOf W f) = RB W N b (upd G p f) := by
  have h2 := map_range_set (fun q => if q < b then rowOf W (G q) else []) (fun q => if q < b then rowOf W (upd G p f q) else []) N p (fun q _ hq => by
    show (if q < b then rowOf W (G q) else []) = if q < b then rowOf W (upd G p f q) else []
    unfold upd
    rw [if_neg hq])
  have e : (if p < b then rowOf W (upd G p f p) else []) = rowOf W f := by
    rw [if_pos h]
    unfold upd
    rw [if_pos rfl]
  rw [e] at h2
  exact h2
theorem upd_upd (G : Nat → Nat → Int) (p : Nat) (f g : Nat → Int) : upd (upd G p f) p g = upd G p g := by
  funext q
  unfold upd
  split <;> rfl
theorem upd_at (G : Nat → Nat → Int) (p : Nat) (f : Nat → Int) : upd G p f p = f := by
  unfold upd
  rw [if_pos rfl]
theorem upd_ne (G : Nat → Nat → Int) (p q : Nat) (f : Nat → Int) (h : q ≠ p) : upd G p f q = G q := by
  unfold upd
  rw [if_neg h]
theorem upd_self (G : Nat → Nat → Int) (p : Nat) : upd G p (G p) = G := by
  funext q
  unfold upd
  split
  · rename_i h; rw [h]
  · rfl
theorem RB_row_congr (W N b : Nat) (G : Nat → Nat → Int) (p : Nat) (f g : Nat → Int) (h : rowOf W f = rowOf W g) : RB W N b (upd G p f) = RB W N b (upd G p g) := by
  unfold RB
  refine List.map_congr_left (fun q _ => ?_)
  show (if q < b then rowOf W (upd G p f q) else []) = if q < b then rowOf W (upd G p g q) else []
  unfold upd
  split
  · split
    · exact h
    · rfl
  · rfl
def accF (G : Nat → Nat → Int) (f : Nat → Int) : Nat → Nat → Nat → Int
 | _, 0 => f
 | b, e + 1 => accF G (adF f (G b)) (b + 1) e
def loP (a : Int) (p : Nat) : Nat := (mx 0 ((p : Int) - a)).toNat
def stepG (a : Int) (G : Nat → Nat → Int) (p : Nat) : Nat → Nat → Int := upd G p (accF G (G p) (loP a p) (p - loP a p))
theorem loP_le (a : Int) (p : Nat) (ha : 0 ≤ a) : loP a p ≤ p ∧ ((loP a p : Nat) : Int) = mx 0 ((p : Int) - a) := by
  unfold loP mx
  split <;> omega
theorem i1 (x : Nat) (h : x ≤ 1000) : wrap64 ((x : Int) + 1) = ((x + 1 : Nat) : Int) := (w64 (by omega) (by omega)).trans (by omega)
theorem mn_lit (x y : Int) : (if x < y then x else y) = mn x y := by unfold mn; split <;> split <;> omega
theorem least_eq (x y : Int) : spec_l1Least.f x y = some (mn x y) := by
  unfold spec_l1Least.f
  rw [← mn_lit]
  split <;> rfl
theorem most_eq (x y : Int) : spec_l1Most.f x y = some (mx x y) := by
  unfold spec_l1Most.f mx
  split <;> split <;> first | rfl | (congr 1; omega)
theorem cb_l3 (a x5 : Int) (N : Nat) (G : Nat → Nat → Int) (nx fr : Nat) (hnx : nx < N) (f g : Nat → Int) (L : List Int) (m x : Int) (res : List Int) (e : Nat) : ∀ j : Nat, j + e = 41 →
    Ev (fun k => impl_countBy.l2 k a x5 (RB 42 N N (upd G nx (adF f g))) (nx : Int) (wrap64 ((fr : Int) + 1)) L m x) res →
    Ev (fun k => impl_countBy.l3 k a x5 (RB 42 N N (upd G nx (adP f g j))) (nx : Int) (fr : Int) L m x (rowOf 41 g) 41 (j : Int)) res := by
  induction e with
  | zero =>
    intro j hj h
    obtain rfl : j = 41 := by omega
    refine Ev.step (fun k => by rw [impl_countBy.l3]) ?_
    refine evNeg (by omega) ?_
    rw [RB_row_congr 42 N N G nx _ _ (rowOf_full 41 f g)]
    exact h
  | succ e ih =>
    intro j hj h
    have h2 := ih (j + 1) (by omega) h
    refine Ev.step (fun k => by rw [impl_countBy.l3]) ?_
    rw [i1 j (by omega), Int.toNat_natCast, Int.toNat_natCast, RB_get 42 N N _ nx hnx hnx, upd_at, rd_rowOf 42 _ (j + 1) (by omega), rd_rowOf 41 g j (by omega), adP_next]
    refine evPos (by omega) (evPos (by omega) (evPos (by rw [rowOf_len]; omega) (evPos (by omega) (evPos (by rw [RB_len]; omega) (evPos (by omega) (evPos (by rw [rowOf_len]; omega) ?_))))))
    have e1 : (rowOf 42 (adP f g j)).set (j + 1) (mn (wrap64 (f (j + 1) + g j)) 1000000000000001) = rowOf 42 (adP f g (j + 1)) := rowOf_set 42 f g j
    rw [e1, RB_set 42 N N _ nx _ hnx, upd_upd]
    exact h2
theorem cb_l2 (a x5 : Int) (N : Nat) (hN : N ≤ 1000) (G : Nat → Nat → Int) (nx : Nat) (hnx : nx < N) (L : List Int) (m x : Int) (res : List Int) (e : Nat) : ∀ (b : Nat) (f : Nat → Int), b + e = nx →
    Ev (fun k => impl_countBy.l1 k a x5 (RB 42 N N (upd G nx (accF G f b e))) L m (wrap64 (x + 1))) res →
    Ev (fun k => impl_countBy.l2 k a x5 (RB 42 N N (upd G nx f)) (nx : Int) (b : Int) L m x) res := by
  induction e with
  | zero =>
    intro b f hb h
    refine Ev.step (fun k => by rw [impl_countBy.l2]) ?_
    exact evNeg (by omega) h
  | succ e ih =>
    intro b f hb h
    refine Ev.step (fun k => by rw [impl_countBy.l2]) ?_
    rw [RB_get 42 N N _ b (by omega) (by omega), upd_ne G nx b f (by omega), rowOf_take 42 41 _ (by omega)]
    refine evPos (by omega) (evPos (by omega) (evPos (by rw [RB_len]; omega) (evPos (by rw [rowOf_len]; omega) (evBind0 rfl ?_))))
    rw [rowOf_len]
    have h3 := cb_l3 a x5 N G nx b hnx f (G b) L m x res 41 0 (by omega) (by
      rw [i1 b (by omega)]
      exact ih (b + 1) (adF f (G b)) (by omega) h)
    rw [adP_zero] at h3
    exact h3
theorem cb_l1 (a : Int) (ha : 1 ≤ a) (ha2 : a ≤ 1000) (n : Nat) (hn : n ≤ 40) (L : List Nat) (hL : ∀ x ∈ L, x ≤ n + 1) (hl : L.length ≤ 500) (e : Nat) : ∀ (i : Nat) (G : Nat → Nat → Int), i + e = L.length →
    Ev (fun k => impl_countBy.l1 k a ((n + 1 : Nat) : Int) (RB 42 (n + 2) (n + 2) G) (ints L) (L.length : Int) (i : Int)) (rowOf 42 ((L.drop i).foldl (stepG a) G (n + 1))) := by
  have hil : (ints L).length = L.length := by simp [ints]
  induction e with
  | zero =>
    intro i G hi
    refine Ev.step (fun k => by rw [impl_countBy.l1]) ?_
    refine evNeg (by omega) (evPos (by omega) (evPos (by rw [RB_len]; omega) (evSome ?_)))
    rw [RB_get _ _ _ _ (n + 1) (by omega) (by omega), List.drop_of_length_le (by omega)]
    rfl
  | succ e ih =>
    intro i G hi
    refine Ev.step (fun k => by rw [impl_countBy.l1]) ?_
    have hx : L.getD i 0 ≤ n + 1 := by
      rw [← getElem_getD L i 0 (by omega)]
      exact hL _ (List.getElem_mem (by omega))
    rw [rd_ints L i (by omega), w64 (x := ((L.getD i 0 : Nat) : Int) - a) (by omega) (by omega)]
    refine evPos (by omega) (evPos (by omega) (evPos (by rw [hil]; omega) ?_))
    obtain ⟨h1, h2⟩ := loP_le a (L.getD i 0) (by omega)
    rw [← h2]
    have h3 := cb_l2 a ((n + 1 : Nat) : Int) (n + 2) (by omega) G (L.getD i 0) (by omega) (ints L) (L.length : Int) (i : Int) _ (L.getD i 0 - loP a (L.getD i 0)) (loP a (L.getD i 0)) (G (L.getD i 0)) (by omega) (by
      rw [i1 i (by omega)]
      exact ih (i + 1) (stepG a G (L.getD i 0)) (by omega))
    rw [upd_self] at h3
    rw [getD_drop_cons L i 0 (by omega)]
    exact h3
def zeroF : Nat → Int := fun _ => 0
def startG : Nat → Nat → Int := upd (fun _ => zeroF) 0 (fun k => if k = 0 then 1 else 0)
theorem rowOf_zero (W : Nat) : rowOf W zeroF = List.replicate W 0 := by
  unfold rowOf zeroF
  rw [List.map_const', List.length_range]
theorem rowOf_one (W : Nat) : (List.replicate (W + 1) (0 : Int)).set 0 1 = rowOf (W + 1) (fun k => if k = 0 then 1 else 0) := by
  rw [← rowOf_zero]
  have h := map_range_set zeroF (fun k => if k = 0 then (1 : Int) else 0) (W + 1) 0 (fun q _ hq => by show (0 : Int) = _; rw [if_neg hq])
  exact h
theorem RB_next (W N b : Nat) (G : Nat → Nat → Int) (h : b < N) : (RB W N b G).set b (rowOf W (G b)) = RB W N (b + 1) G := by
  have h2 := map_range_set (fun q => if q < b then rowOf W (G q) else []) (fun q => if q < b + 1 then rowOf W (G q) else []) N b (fun q _ hq => by
    show (if q < b then rowOf W (G q) else []) = if q < b + 1 then rowOf W (G q) else []
    by_cases h : q < b
    · rw [if_pos h, if_pos (by omega)]
    · rw [if_neg h, if_neg (by omega)])
  have e : (if b < b + 1 then rowOf W (G b) else []) = rowOf W (G b) := if_pos (by omega)
  rw [e] at h2
  exact h2
theorem cb_l0 (r : ByteArray) (hr : r.size ≤ 40) (a : Int) (res : List Int) (e : Nat) : ∀ i : Nat, i + e = r.size + 2 →
    Ev (fun k => impl_countBy.l0 k r a ((r.size + 1 : Nat) : Int) (RB 42 (r.size + 2) (r.size + 2) (fun _ => zeroF)) ((r.size + 2 : Nat) : Int) ((r.size + 2 : Nat) : Int)) res →
    Ev (fun k => impl_countBy.l0 k r a ((r.size + 1 : Nat) : Int) (RB 42 (r.size + 2) i (fun _ => zeroF)) ((r.size + 2 : Nat) : Int) (i : Int)) res := by
  induction e with
  | zero =>
    intro i hi h
    obtain rfl : i = r.size + 2 := by omega
    exact h
  | succ e ih =>
    intro i hi h
    refine Ev.step (fun k => by rw [impl_countBy.l0]) ?_
    refine evPos (by omega) (evPos (by omega) (evPos (by omega) (evPos (by rw [RB_len]; omega) ?_)))
    rw [i1 i (by omega), Int.toNat_natCast, ← rowOf_zero]
    have h2 := RB_next 42 (r.size + 2) i (fun _ => zeroF) (by omega)
    have h3 := ih (i + 1) (by omega) h
    rw [← h2] at h3
    exact h3
theorem RB_none (W N : Nat) (G : Nat → Nat → Int) : RB W N 0 G = List.replicate N [] := by
  unfold RB
  have : (fun q => if q < 0 then rowOf W (G q) else []) = fun _ => [] := by funext q; rw [if_neg (by omega)]
  rw [this, List.map_const', List.length_range]
def waysF (r : ByteArray) (a : Int) : Nat → Int := ((List.range' 1 (r.size + 1)).filter (pl r)).foldl (stepG a) startG (r.size + 1)
theorem countBy_ev (r : ByteArray) (hr : r.size ≤ 40) (a : Int) (ha : 1 ≤ a) (ha2 : a ≤ 1000) : Ev (fun k => impl_countBy.f k r a) (rowOf 42 (waysF r a)) := by
  unfold impl_countBy.f
  rw [i1 r.size (by omega), i1 (r.size + 1) (by omega), Int.toNat_natCast]
  refine evPos (by omega) (evPos (by omega) (evBind0 rfl ?_))
  rw [List.length_replicate, ← RB_none 42 (r.size + 2) (fun _ => zeroF)]
  refine cb_l0 r hr a _ (r.size + 2) 0 (by omega) ?_
  refine Ev.step (fun k => by rw [impl_countBy.l0]) ?_
  have hg := RB_get 42 (r.size + 2) (r.size + 2) (fun _ => zeroF) 0 (by omega) (by omega)
  have hg' : rd_L3 (RB 42 (r.size + 2) (r.size + 2) fun _ => zeroF) 0 = rowOf 42 zeroF := hg
  refine evNeg (by omega) (evPos (by rw [RB_len]; omega) (evPos (by rw [hg', rowOf_len]; omega) (Ev.bind (stand_ev r (by omega)) ?_)))
  have hc := stL_cons r
  refine evPos (by rw [hc]; simp [ints]; omega) (evBind0 rfl ?_)
  have hset : (RB 42 (r.size + 2) (r.size + 2) (fun _ => zeroF)).set (0 : Int).toNat ((rd_L3 (RB 42 (r.size + 2) (r.size + 2) fun _ => zeroF) 0).set (0 : Int).toNat 1) = RB 42 (r.size + 2) (r.size + 2) startG := by
    rw [hg', rowOf_zero]
    show List.set _ 0 (List.set (List.replicate (41 + 1) 0) 0 1) = _
    rw [rowOf_one 41]
    exact RB_set 42 (r.size + 2) (r.size + 2) (fun _ => zeroF) 0 _ (by omega)
  rw [hset]
  have hd : (ints (stL r)).drop 1 = ints ((List.range' 1 (r.size + 1)).filter (pl r)) := by rw [hc]; rfl
  rw [hd]
  have hlen : ((List.range' 1 (r.size + 1)).filter (pl r)).length ≤ 41 := by
    have := List.length_filter_le (pl r) (List.range' 1 (r.size + 1))
    rw [List.length_range'] at this
    omega
  have h := cb_l1 a ha ha2 r.size hr ((List.range' 1 (r.size + 1)).filter (pl r)) (fun x hx => by
    have := List.mem_range'_1.1 (List.mem_filter.1 hx).1
    omega) (by omega) ((List.range' 1 (r.size + 1)).filter (pl r)).length 0 startG (by omega)
  rw [List.drop_zero] at h
  have hil : (ints ((List.range' 1 (r.size + 1)).filter (pl r))).length = ((List.range' 1 (r.size + 1)).filter (pl r)).length := by simp [ints]
  rw [hil]
  exact h
theorem rc_l2 (r : ByteArray) (a : Int) (n N b0 : Nat) (hb0 : b0 ≤ N) (hn : n ≤ 100) (G : Nat → Nat → Int) (nx fr : Nat) (hnx : nx < b0) (f g : Nat → Int) (y z : Int) (res : List Int) (e : Nat) : ∀ j : Nat, j + e = n + 1 →
    Ev (fun k => spec_rvCount.l1 k r a ((n + 1 : Nat) : Int) (RB (n + 2) N b0 (upd G nx (adF f g))) (nx : Int) (wrap64 ((fr : Int) + 1)) y z) res →
    Ev (fun k => spec_rvCount.l2 k r a ((n + 1 : Nat) : Int) (RB (n + 2) N b0 (upd G nx (adP f g j))) (nx : Int) (fr : Int) y z (rowOf (n + 1) g) ((n + 1 : Nat) : Int) (j : Int)) res := by
  induction e with
  | zero =>
    intro j hj h
    obtain rfl : j = n + 1 := by omega
    refine Ev.step (fun k => by rw [spec_rvCount.l2]) ?_
    refine evNeg (by omega) ?_
    rw [RB_row_congr (n + 2) N b0 G nx _ _ (rowOf_full (n + 1) f g)]
    exact h
  | succ e ih =>
    intro j hj h
    have h2 := ih (j + 1) (by omega) h
    refine Ev.step (fun k => by rw [spec_rvCount.l2]) ?_
    rw [i1 j (by omega), Int.toNat_natCast, Int.toNat_natCast, RB_get (n + 2) N b0 _ nx hnx (by omega), upd_at, rd_rowOf (n + 2) _ (j + 1) (by omega), rd_rowOf (n + 1) g j (by omega), adP_next]
    refine evPos (by omega) (evPos (by omega) (evPos (by rw [rowOf_len]; omega) (evPos (by omega) (evPos (by rw [RB_len]; omega) (evPos (by omega) (evPos (by rw [rowOf_len]; omega) (evBind0 (least_eq _ _) ?_)))))))
    have e1 : (rowOf (n + 2) (adP f g j)).set (j + 1) (mn (wrap64 (f (j + 1) + g j)) 1000000000000001) = rowOf (n + 2) (adP f g (j + 1)) := rowOf_set (n + 2) f g j
    rw [e1, RB_set (n + 2) N b0 _ nx _ hnx, upd_upd]
    exact h2
theorem rc_l1 (r : ByteArray) (a : Int) (n N b0 : Nat) (hb0 : b0 ≤ N) (hN : N ≤ 1000) (hn : n ≤ 100) (G : Nat → Nat → Int) (nx : Nat) (hnx : nx < b0) (y z : Int) (res : List Int) (e : Nat) : ∀ (b : Nat) (f : Nat → Int), b + e = nx →
    Ev (fun k => spec_rvCount.l0 k r a ((n + 1 : Nat) : Int) (RB (n + 2) N b0 (upd G nx (accF G f b e))) y (wrap64 (z + 1))) res →
    Ev (fun k => spec_rvCount.l1 k r a ((n + 1 : Nat) : Int) (RB (n + 2) N b0 (upd G nx f)) (nx : Int) (b : Int) y z) res := by
  induction e with
  | zero =>
    intro b f hb h
    refine Ev.step (fun k => by rw [spec_rvCount.l1]) ?_
    exact evNeg (by omega) h
  | succ e ih =>
    intro b f hb h
    refine Ev.step (fun k => by rw [spec_rvCount.l1]) ?_
    rw [RB_get (n + 2) N b0 _ b (by omega) (by omega), upd_ne G nx b f (by omega), Int.toNat_natCast, rowOf_take (n + 2) (n + 1) _ (by omega)]
    refine evPos (by omega) (evPos (by omega) (evPos (by rw [RB_len]; omega) (evPos (by omega) (evPos (by rw [rowOf_len]; omega) (evBind0 rfl ?_)))))
    rw [rowOf_len]
    have h3 := rc_l2 r a n N b0 hb0 hn G nx b hnx f (G b) y z res (n + 1) 0 (by omega) (by
      rw [i1 b (by omega)]
      exact ih (b + 1) (adF f (G b)) (by omega) h)
    rw [adP_zero] at h3
    exact h3
theorem rc_j1 (r : ByteArray) (hr : r.size ≤ 40) (a : Int) (ha : 1 ≤ a) (ha2 : a ≤ 1000) (G : Nat → Nat → Int) (p : Nat) (hp : p ≤ r.size + 1) (res : List Int)
    (h1 : pl r p = true → Ev (fun k => spec_rvCount.l0 k r a ((r.size + 1 : Nat) : Int) (RB (r.size + 2) (r.size + 2) (p + 1) (stepG a G p)) ((r.size + 2 : Nat) : Int) ((p + 1 : Nat) : Int)) res)
    (h2 : pl r p = false → Ev (fun k => spec_rvCount.l0 k r a ((r.size + 1 : Nat) : Int) (RB (r.size + 2) (r.size + 2) (p + 1) G) ((r.size + 2 : Nat) : Int) ((p + 1 : Nat) : Int)) res) :
    Ev (fun k => spec_rvCount.j1 k r a ((r.size + 1 : Nat) : Int) (RB (r.size + 2) (r.size + 2) (p + 1) G) (p : Int) ((r.size + 2 : Nat) : Int) (p : Int)) res := by
  refine Ev.step (fun k => by rw [spec_rvCount.j1]) ?_
  refine evBind0 (rvStand_eq r (by omega) p hp) ?_
  cases hs : pl r p with
  | true =>
    refine evPos rfl (evBind0 (most_eq _ _) ?_)
    rw [w64 (x := (p : Int) - a) (by omega) (by omega)]
    obtain ⟨h3, h4⟩ := loP_le a p (by omega)
    rw [← h4]
    have h5 := rc_l1 r a r.size (r.size + 2) (p + 1) (by omega) (by omega) (by omega) G p (by omega) ((r.size + 2 : Nat) : Int) (p : Int) res (p - loP a p) (loP a p) (G p) (by omega) (by
      rw [i1 p (by omega)]
      exact h1 hs)
    rw [upd_self] at h5
    exact h5
  | false =>
    refine evNeg (by simp) ?_
    rw [i1 p (by omega)]
    exact h2 hs
theorem stepG_ne (a : Int) (G : Nat → Nat → Int) (p q : Nat) (h : q ≠ p) : stepG a G p q = G q := upd_ne _ _ _ _ h
theorem rc_l0 (r : ByteArray) (hr : r.size ≤ 40) (a : Int) (ha : 1 ≤ a) (ha2 : a ≤ 1000) (e : Nat) : ∀ (p : Nat) (G : Nat → Nat → Int), 1 ≤ p → p + e = r.size + 2 → (∀ q, p ≤ q → G q = zeroF) →
    Ev (fun k => spec_rvCount.l0 k r a ((r.size + 1 : Nat) : Int) (RB (r.size + 2) (r.size + 2) p G) ((r.size + 2 : Nat) : Int) (p : Int)) (rowOf (r.size + 2) (((List.range' p e).filter (pl r)).foldl (stepG a) G (r.size + 1))) := by
  induction e with
  | zero =>
    intro p G h1 hp hz
    refine Ev.step (fun k => by rw [spec_rvCount.l0]) ?_
    refine evNeg (by omega) (evPos (by omega) (evPos (by rw [RB_len]; omega) (evSome ?_)))
    exact RB_get _ _ _ _ (r.size + 1) (by omega) (by omega)
  | succ e ih =>
    intro p G h1 hp hz
    refine Ev.step (fun k => by rw [spec_rvCount.l0]) ?_
    rw [i1 (r.size + 1) (by omega), Int.toNat_natCast, Int.toNat_natCast]
    refine evPos (by omega) (evPos (by omega) (evPos (by omega) (evPos (by omega) (evPos (by rw [RB_len]; omega) (evBind0 rfl (evNeg (by omega) ?_))))))
    have e1 := RB_next (r.size + 2) (r.size + 2) p G (by omega)
    rw [hz p (Nat.le_refl _), rowOf_zero] at e1
    rw [e1, List.range'_succ]
    refine rc_j1 r hr a ha ha2 G p (by omega) _ (fun hs => ?_) (fun hs => ?_)
    · rw [List.filter_cons_of_pos hs]
      exact ih (p + 1) (stepG a G p) (by omega) (by omega) (fun q hq => by rw [stepG_ne a G p q (by omega)]; exact hz q (by omega))
    · rw [List.filter_cons_of_neg (by rw [hs]; exact Bool.false_ne_true)]
      exact ih (p + 1) G (by omega) (by omega) (fun q hq => hz q (by omega))
theorem rvCount_ev (r : ByteArray) (hr : r.size ≤ 40) (a : Int) (ha : 1 ≤ a) (ha2 : a ≤ 1000) : Ev (fun k => spec_rvCount.f k r a) (rowOf (r.size + 2) (waysF r a)) := by
  unfold spec_rvCount.f
  rw [i1 r.size (by omega), i1 (r.size + 1) (by omega), Int.toNat_natCast]
  refine evPos (by omega) (evPos (by omega) (evBind0 rfl ?_))
  rw [List.length_replicate]
  refine Ev.step (fun k => by rw [spec_rvCount.l0]) ?_
  rw [i1 (r.size + 1) (by omega), Int.toNat_natCast]
  refine evPos (by omega) (evPos (by omega) (evPos (by omega) (evPos (by omega) (evPos (by simp; omega) (evBind0 rfl (evPos rfl ?_))))))
  have e0 : (List.replicate (r.size + 2) ([] : List Int)).set (0 : Int).toNat (List.replicate (r.size + 1 + 1) 0) = RB (r.size + 2) (r.size + 2) (0 + 1) (fun _ => zeroF) := by
    have h := RB_next (r.size + 2) (r.size + 2) 0 (fun _ => zeroF) (by omega)
    rw [RB_none, rowOf_zero] at h
    exact h
  rw [e0]
  have hg : rd_L3 (RB (r.size + 2) (r.size + 2) (0 + 1) fun _ => zeroF) 0 = rowOf (r.size + 2) zeroF := RB_get (r.size + 2) (r.size + 2) (0 + 1) (fun _ => zeroF) 0 (by omega) (by omega)
  refine evPos (by rw [hg, rowOf_len]; omega) ?_
  have e1 : (RB (r.size + 2) (r.size + 2) (0 + 1) (fun _ => zeroF)).set (0 : Int).toNat ((rd_L3 (RB (r.size + 2) (r.size + 2) (0 + 1) fun _ => zeroF) 0).set (0 : Int).toNat 1) = RB (r.size + 2) (r.size + 2) (0 + 1) startG := by
    rw [hg, rowOf_zero]
    show List.set _ 0 (List.set (List.replicate (r.size + 1 + 1) 0) 0 1) = _
    rw [rowOf_one (r.size + 1)]
    exact RB_set (r.size + 2) (r.size + 2) (0 + 1) (fun _ => zeroF) 0 _ (by omega)
  rw [e1]
  have hz : ∀ q, 1 ≤ q → startG q = zeroF := fun q hq => upd_ne _ _ _ _ (by omega)
  have hst : stepG a startG 0 = startG := by
    unfold stepG
    rw [show 0 - loP a 0 = 0 by omega]
    exact upd_self startG 0
  have hfin := rc_l0 r hr a ha ha2 (r.size + 1) 1 startG (by omega) (by omega) hz
  refine rc_j1 r hr a ha ha2 startG 0 (by omega) _ (fun _ => ?_) (fun hs => ?_)
  · rw [hst]
    exact hfin
  · exact absurd hs (by simp [pl])
def wsum (s : Int) (L : List Int) : Int := L.foldl (fun s x => wrap64 (s + x)) s
def thin (G : Nat → Nat → Int) : Prop := ∀ q k, q < k → G q k = 0
theorem accF_thin (G : Nat → Nat → Int) (h : thin G) (p : Nat) (e : Nat) : ∀ (b : Nat) (f : Nat → Int), b + e ≤ p → (∀ k, p < k → f k = 0) → ∀ k, p < k → accF G f b e k = 0 := by
  induction e with
  | zero => exact fun b f _ hf => hf
  | succ e ih =>
    intro b f hb hf
    refine ih (b + 1) _ (by omega) (fun k hk => ?_)
    obtain ⟨j, rfl⟩ : ∃ j, k = j + 1 := ⟨k - 1, by omega⟩
    show mn (wrap64 (f (j + 1) + G b j)) 1000000000000001 = 0
    rw [hf _ hk, h b j (by omega)]
    decide +kernel
theorem stepG_thin (a : Int) (ha : 0 ≤ a) (G : Nat → Nat → Int) (p : Nat) (h : thin G) : thin (stepG a G p) := by
  intro q k hk
  unfold stepG upd
  split
  · rename_i e
    subst e
    have := (loP_le a q ha).1
    exact accF_thin G h q _ _ _ (by omega) (fun k hk => h q k hk) k hk
  · exact h q k hk
theorem startG_thin : thin startG := by
  intro q k hk
  unfold startG upd
  split
  · show (if k = 0 then (1 : Int) else 0) = 0
    rw [if_neg (by omega)]
  · rfl
theorem fold_thin (a : Int) (ha : 0 ≤ a) : ∀ (L : List Nat) (G : Nat → Nat → Int), thin G → thin (L.foldl (stepG a) G)
 | [], G, h => h
 | p :: L, G, h => fold_thin a ha L _ (stepG_thin a ha G p h)
def capI : Int := 1000000000000001
theorem capI_eq : capI = 1000000000000001 := rfl
def fw (r : ByteArray) (a : Int) : Nat → Nat → Prop
 | 0, q => q = 0
 | k + 1, q => 1 ≤ q ∧ pl r q = true ∧ ∃ p : Nat, p < q ∧ (q : Int) ≤ (p : Int) + a ∧ fw r a k p
theorem fw_zero {r : ByteArray} {a : Int} {k : Nat} (h : fw r a k 0) : k = 0 := by
  cases k with
  | zero => rfl
  | succ k => exact absurd h.1 (by omega)
theorem adF_pos (f g : Nat → Int) (hf : ∀ k, 0 ≤ f k ∧ f k ≤ capI) (hg : ∀ k, 0 ≤ g k ∧ g k ≤ capI) : ∀ k, (0 ≤ adF f g k ∧ adF f g k ≤ capI) ∧ (0 < adF f g k ↔ 0 < f k ∨ ∃ j, k = j + 1 ∧ 0 < g j)
 | 0 => ⟨hf 0, ⟨.inl, fun h => h.resolve_right (fun ⟨j, hj, _⟩ => by omega)⟩⟩
 | k + 1 => by
  have h1 := hf (k + 1)
  have h2 := hg k
  rw [capI_eq] at h1 h2
  have e : adF f g (k + 1) = mn (f (k + 1) + g k) 1000000000000001 := by
    show mn (wrap64 (f (k + 1) + g k)) 1000000000000001 = _
    rw [w64 (by omega) (by omega)]
  rw [e, capI_eq]
  unfold mn
  constructor
  · split <;> omega
  · constructor
    · intro h
      by_cases h3 : 0 < f (k + 1)
      · exact .inl h3
      · refine .inr ⟨k, rfl, ?_⟩
        split at h <;> omega
    · rintro (h3 | ⟨j, hj, h3⟩)
      · split <;> omega
      · obtain rfl : j = k := by omega
        split <;> omega
theorem accF_pos (G : Nat → Nat → Int) (hG : ∀ q k, 0 ≤ G q k ∧ G q k ≤ capI) (e : Nat) : ∀ (b : Nat) (f : Nat → Int), (∀ k, 0 ≤ f k ∧ f k ≤ capI) → ∀ k, (0 ≤ accF G f b e k ∧ accF G f b e k ≤ capI) ∧ (0 < accF G f b e k ↔ 0 < f k ∨ ∃ j q, k = j + 1 ∧ b ≤ q ∧ q < b + e ∧ 0 < G q j) := by
  induction e with
  | zero => exact fun b f hf k => ⟨hf k, ⟨.inl, fun h => h.resolve_right (fun ⟨j, q, _, h1, h2, _⟩ => by omega)⟩⟩
  | succ e ih =>
    intro b f hf k
    have ha := adF_pos f (G b) hf (hG b)
    obtain ⟨h1, h2⟩ := ih (b + 1) (adF f (G b)) (fun k => (ha k).1) k
    refine ⟨h1, ?_⟩
    show 0 < accF G (adF f (G b)) (b + 1) e k ↔ _
    rw [h2, (ha k).2]
    constructor
    · rintro ((h | ⟨j, hj, h⟩) | ⟨j, q, hj, hq, hq2, h⟩)
      · exact .inl h
      · exact .inr ⟨j, b, hj, Nat.le_refl _, by omega, h⟩
      · exact .inr ⟨j, q, hj, by omega, by omega, h⟩
    · rintro (h | ⟨j, q, hj, hq, hq2, h⟩)
      · exact .inl (.inl h)
      · by_cases hb : q = b
        · subst hb
          exact .inl (.inr ⟨j, hj, h⟩)
        · exact .inr ⟨j, q, hj, by omega, by omega, h⟩
def GP (r : ByteArray) (a : Int) (p : Nat) : Nat → Nat → Int := ((List.range' 1 p).filter (pl r)).foldl (stepG a) startG
theorem GP_succ (r : ByteArray) (a : Int) (p : Nat) : GP r a (p + 1) = if pl r (p + 1) = true then stepG a (GP r a p) (p + 1) else GP r a p := by
  unfold GP
  rw [List.range'_concat, List.filter_append, List.foldl_append, show 1 + 1 * p = p + 1 by omega]
  cases h : pl r (p + 1) with
  | true => rw [List.filter_cons_of_pos h]; rfl
  | false => rw [List.filter_cons_of_neg (by rw [h]; exact Bool.false_ne_true)]; rfl
theorem GP_pos (r : ByteArray) (a : Int) (ha : 1 ≤ a) : ∀ (p q k : Nat), (0 ≤ GP r a p q k ∧ GP r a p q k ≤ capI) ∧ (0 < GP r a p q k ↔ q ≤ p ∧ fw r a k q)
 | 0, q, k => by
  show (0 ≤ startG q k ∧ startG q k ≤ capI) ∧ (0 < startG q k ↔ q ≤ 0 ∧ fw r a k q)
  rw [capI_eq]
  unfold startG upd
  by_cases hq : q = 0
  · subst hq
    rw [if_pos rfl]
    by_cases hk : k = 0
    · subst hk
      rw [if_pos rfl]
      exact ⟨by omega, fun _ => ⟨Nat.le_refl _, rfl⟩, fun _ => by omega⟩
    · rw [if_neg hk]
      exact ⟨by omega, fun h => absurd h (by omega), fun h => absurd (fw_zero h.2) hk⟩
  · rw [if_neg hq]
    show (0 ≤ (0 : Int) ∧ (0 : Int) ≤ _) ∧ ((0 : Int) < 0 ↔ _)
    exact ⟨by omega, fun h => absurd h (by omega), fun h => absurd h.1 (by omega)⟩
 | p + 1, q, k => by
  have ih := GP_pos r a ha p
  rw [GP_succ]
  by_cases hpl : pl r (p + 1) = true
  · rw [if_pos hpl]
    by_cases hq : q = p + 1
    · subst hq
      obtain ⟨hl1, hl2⟩ := loP_le a (p + 1) (by omega)
      have hz : ∀ k, GP r a p (p + 1) k = 0 := fun k => by
        have h1 := (ih (p + 1) k).1
        have h2 : ¬ 0 < GP r a p (p + 1) k := fun h => absurd ((ih (p + 1) k).2.1 h).1 (by omega)
        omega
      have e : stepG a (GP r a p) (p + 1) (p + 1) = accF (GP r a p) (GP r a p (p + 1)) (loP a (p + 1)) (p + 1 - loP a (p + 1)) := upd_at _ _ _
      rw [e]
      obtain ⟨h1, h2⟩ := accF_pos (GP r a p) (fun q k => (ih q k).1) (p + 1 - loP a (p + 1)) (loP a (p + 1)) (GP r a p (p + 1)) (fun k => (ih (p + 1) k).1) k
      refine ⟨h1, ?_⟩
      rw [h2, hz k]
      constructor
      · rintro (h | ⟨j, q, rfl, hb, hb2, h⟩)
        · omega
        · refine ⟨Nat.le_refl _, by omega, hpl, q, by omega, ?_, ((ih q j).2.1 h).2⟩
          have : ((loP a (p + 1) : Nat) : Int) ≤ (q : Int) := by omega
          rw [hl2] at this
          unfold mx at this
          split at this <;> omega
      · rintro ⟨_, h⟩
        cases k with
        | zero => exact absurd (show p + 1 = 0 from h) (by omega)
        | succ j =>
          obtain ⟨_, _, q, h3, h4, h5⟩ := h
          refine .inr ⟨j, q, rfl, ?_, by omega, (ih q j).2.2 ⟨by omega, h5⟩⟩
          have : ((loP a (p + 1) : Nat) : Int) ≤ (q : Int) := by
            rw [hl2]
            unfold mx
            split <;> omega
          omega
    · have e : stepG a (GP r a p) (p + 1) q = GP r a p q := upd_ne _ _ _ _ hq
      rw [e]
      refine ⟨(ih q k).1, (ih q k).2.trans ⟨fun h => ⟨by omega, h.2⟩, fun h => ⟨by omega, h.2⟩⟩⟩
  · rw [if_neg hpl]
    refine ⟨(ih q k).1, (ih q k).2.trans ⟨fun h => ⟨by omega, h.2⟩, fun h => ⟨?_, h.2⟩⟩⟩
    by_cases hq : q = p + 1
    · subst hq
      cases k with
      | zero => exact absurd (show p + 1 = 0 from h.2) (by omega)
      | succ j => exact absurd h.2.2.1 hpl
    · omega
theorem fw_way {r : ByteArray} {a : Int} : ∀ (k m q : Nat), q ≤ r.size + 1 → fw r a k q → wayN r a m q → wayN r a (k + m) 0
 | 0, m, q, _, h, hm => by
  obtain rfl : q = 0 := h
  rw [Nat.zero_add]
  exact hm
 | k + 1, m, q, hq, h, hm => by
  obtain ⟨_, hpl, p, h2, h3, h4⟩ := h
  have hp : pl r p = true := by
    cases k with
    | zero =>
      obtain rfl : p = 0 := h4
      simp [pl]
    | succ k => exact h4.2.1
  have := fw_way k (m + 1) p (by omega) h4 ⟨by omega, hp, q, h2, hq, h3, hm⟩
  rw [show k + (m + 1) = k + 1 + m by omega] at this
  exact this
theorem way_fw {r : ByteArray} {a : Int} : ∀ (m k q : Nat), fw r a k q → wayN r a m q → fw r a (k + m) (r.size + 1)
 | 0, k, q, h, hm => by
  obtain rfl : q = r.size + 1 := hm
  exact h
 | m + 1, k, q, h, hm => by
  obtain ⟨h1, h2, p, h3, h4, h5, h6⟩ := hm
  have hp : pl r p = true := by
    cases m with
    | zero =>
      obtain rfl : p = r.size + 1 := h6
      simp [pl]
    | succ m => exact h6.2.1
  have := way_fw m (k + 1) p ⟨by omega, hp, q, h3, h5, h⟩ h6
  rw [show k + 1 + m = k + (m + 1) by omega] at this
  exact this
theorem ways_pos (r : ByteArray) (a : Int) (ha : 1 ≤ a) (k : Nat) : (0 ≤ waysF r a k ∧ waysF r a k ≤ capI) ∧ (0 < waysF r a k ↔ wayN r a k 0) := by
  have h := GP_pos r a ha (r.size + 1) (r.size + 1) k
  refine ⟨h.1, h.2.trans ⟨fun hh => ?_, fun hh => ⟨Nat.le_refl _, ?_⟩⟩⟩
  · have := fw_way k 0 (r.size + 1) (Nat.le_refl _) hh.2 rfl
    exact this
  · have := way_fw k 0 0 rfl hh
    rw [Nat.zero_add] at this
    exact this
theorem ways_thin (r : ByteArray) (a : Int) (ha : 1 ≤ a) (k : Nat) (hk : r.size + 1 < k) : waysF r a k = 0 := fold_thin a (by omega) _ _ startG_thin _ _ hk
end Go.Proofs.YtfoflpomfmbjoaaDoor.X
end
