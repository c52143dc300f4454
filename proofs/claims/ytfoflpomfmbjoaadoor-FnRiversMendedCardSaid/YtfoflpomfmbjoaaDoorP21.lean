import Derived.Test.YtfoflpomfmbjoaaDoorP4
import Derived.Test.YtfoflpomfmbjoaaDoorP6
import Derived.Test.YtfoflpomfmbjoaaDoorP9
import Derived.Test.YtfoflpomfmbjoaaDoorP11
import Derived.Test.YtfoflpomfmbjoaaDoorP12
import Derived.Test.YtfoflpomfmbjoaaDoorP13
import Derived.Test.YtfoflpomfmbjoaaDoorP14
import Derived.Test.YtfoflpomfmbjoaaDoorP15
import Derived.Test.YtfoflpomfmbjoaaDoorP16
import Derived.Test.YtfoflpomfmbjoaaDoorP17
import Derived.Test.YtfoflpomfmbjoaaDoorP18
import Derived.Test.YtfoflpomfmbjoaaDoorP20
section
namespace Go.Proofs.YtfoflpomfmbjoaaDoor.X
open Go.Proofs.YtfoflpomfmbjoaaDoor.Sq Go.RowKit Go.Proofs.YtfoflpomfmbjoaaDoorW.PrintWords Go.Proofs.YtfoflpomfmbjoaaDoorW.PrintLast Go.Proofs.YtfoflpomfmbjoaaDoorW.PrintMore
attribute [local go_sem] max2_int min2_int max_two min_two max_three min_three max_four min_four   -- for this text's walks alone
set_option linter.unusedVariables false
set_option linter.unusedSimpArgs false
def putS (r : ByteArray) (p : Nat) (c : UInt8) : ByteArray := ⟨(r.data.toList.set (p - 1) c).toArray⟩
theorem putS_size (r : ByteArray) (p : Nat) (c : UInt8) : (putS r p c).size = r.size := by
  show (r.data.toList.set (p - 1) c).toArray.size = r.data.size
  simp
theorem bt_list (r : ByteArray) (i : Nat) (h : i < r.size) : bt r (i : Int) = (((r.data.toList.getD i 0).toNat : Nat) : Int) := by
  obtain ⟨b, hb, hd⟩ := bt_drop r i h
  rw [hb]
  have : r.data.toList.getD i 0 = b := by
    have h1 := getD_drop_cons r.data.toList i 0 (by rw [data_length]; exact h)
    rw [hd] at h1
    exact (List.cons.inj h1).1.symm
  rw [this]
theorem pl_list (r : ByteArray) (q : Nat) (h1 : 1 ≤ q) (h2 : q ≤ r.size) : pl r q = (r.data.toList.getD (q - 1) 0 == 111) := by
  unfold pl
  rw [decide_eq_false (by omega), decide_eq_false (by omega), Bool.false_or, Bool.false_or, show (q : Int) - 1 = ((q - 1 : Nat) : Int) by omega, bt_list r (q - 1) (by omega)]
  rw [Bool.eq_iff_iff, beq_iff_eq, beq_iff_eq, ← UInt8.toNat_inj]
  show _ ↔ _ = (111 : Nat)
  omega
theorem pl_end (r : ByteArray) : pl r (r.size + 1) = true := by simp [pl]
theorem pl_zero (r : ByteArray) : pl r 0 = true := by simp [pl]
theorem putS_data (r : ByteArray) (p : Nat) (c : UInt8) : (putS r p c).data.toList = r.data.toList.set (p - 1) c := rfl
theorem pl_put (r : ByteArray) (p : Nat) (c : UInt8) (h1 : 1 ≤ p) (h2 : p ≤ r.size) (q : Nat) (hq : q ≤ r.size + 1) : pl (putS r p c) q = if q = p then (c == 111) else pl r q := by
  by_cases h0 : q = 0
  · subst h0
    rw [if_neg (by omega), pl_zero, pl_zero]
  by_cases he : q = r.size + 1
  · subst he
    rw [if_neg (by omega), pl_end]
    have := pl_end (putS r p c)
    rw [putS_size] at this
    exact this
  rw [pl_list (putS r p c) q (by omega) (by rw [putS_size]; omega), putS_data, List.getD_eq_getElem?_getD, List.getElem?_set]
  have hl : (p - 1) < r.data.toList.length := by rw [data_length]; omega
  by_cases hp : q = p
  · subst hp
    rw [if_pos rfl, if_pos rfl, if_pos hl]
    rfl
  · rw [if_neg (by omega), if_neg hp, pl_list r q (by omega) (by omega), List.getD_eq_getElem?_getD]
theorem good_put (r : ByteArray) (p : Nat) (c : UInt8) (hc : rvSign c = true) (h : goodL r = true) : goodL (putS r p c) = true := by
  unfold goodL at h ⊢
  rw [putS_size, putS_data]
  rw [Bool.and_eq_true] at h ⊢
  refine ⟨h.1, ?_⟩
  rw [List.all_eq_true] at h ⊢
  intro x hx
  rcases List.mem_or_eq_of_mem_set hx with hx | rfl
  · exact h.2 x hx
  · exact hc
theorem put_put (r : ByteArray) (p : Nat) (c d : UInt8) (h : r.data.toList.getD (p - 1) 0 = d) (h2 : p - 1 < r.size) : putS (putS r p c) p d = r := by
  apply bytes_ext'
  rw [putS_data, putS_data, List.set_set]
  apply List.ext_getElem
  · simp
  · intro i h1 h3
    rw [List.getElem_set]
    split
    · rename_i hi
      subst hi
      rw [getElem_getD _ _ 0 h3]
      exact h.symm
    · rfl
where
  bytes_ext' {a b : ByteArray} (h : a.data.toList = b.data.toList) : a = b := by
    cases a
    cases b
    congr 1
    exact Array.toList_inj.1 h
theorem way_sub {r s : ByteArray} {a : Int} (hs : s.size = r.size) (h : ∀ q, q ≤ r.size + 1 → pl s q = true → pl r q = true) : ∀ (k q : Nat), wayN s a k q → wayN r a k q
 | 0, q, hw => by
  have h' : q = s.size + 1 := hw
  show q = r.size + 1
  omega
 | k + 1, q, hw => by
  obtain ⟨h1, h2, p, h3, h4, h5, h6⟩ := hw
  exact ⟨by omega, h q (by omega) h2, p, h3, by omega, h5, way_sub hs h k p h6⟩
theorem way_less {r s : ByteArray} {a : Int} (p : Nat) (hs : s.size = r.size) (hp : p ≤ r.size) (h : ∀ q, q ≤ r.size + 1 → q ≠ p → pl s q = pl r q) (no : ∀ j k, fw r a j p → wayN r a k p → False) : ∀ (k j q : Nat), q ≤ r.size + 1 → fw r a j q → wayN r a k q → wayN s a k q
 | 0, j, q, _, _, hw => by
  have h' : q = r.size + 1 := hw
  show q = s.size + 1
  omega
 | k + 1, j, q, hq, hf, hw => by
  have hw' := hw
  obtain ⟨h1, h2, t, h3, h4, h5, h6⟩ := hw
  have hne : q ≠ p := fun e => no j (k + 1) (e ▸ hf) (e ▸ hw')
  refine ⟨by omega, by rw [h q hq hne]; exact h2, t, h3, by omega, h5, way_less p hs hp h no k (j + 1) t h4 ⟨by omega, way_pl h6, q, h3, h5, hf⟩ h6⟩
theorem far_fw (r : ByteArray) (a : Nat) : ∀ p, farN r a p = p ↔ ∃ k, fw r (a : Int) k p := by
  intro p
  constructor
  · induction p using Nat.strongRecOn with
    | _ p ih =>
      intro h
      cases p with
      | zero => exact ⟨0, rfl⟩
      | succ p =>
        have hle := farN_le r a p
        by_cases hc : pl r (p + 1) = true ∧ p + 1 - farN r a p ≤ a
        · obtain ⟨k, hk⟩ := ih (farN r a p) (by omega) (farN_idem r a p)
          exact ⟨k + 1, by omega, hc.1, farN r a p, by omega, by omega, hk⟩
        · have e : farN r a (p + 1) = farN r a p := if_neg hc
          omega
  · rintro ⟨k, hk⟩
    induction k generalizing p with
    | zero =>
      have : p = 0 := hk
      subst this
      rfl
    | succ k ih =>
      obtain ⟨h1, h2, t, h3, h4, h5⟩ := hk
      exact farN_hit (ih t h5) h3 (by omega) h2
def mirS (r : ByteArray) : ByteArray := ⟨r.data.toList.reverse.toArray⟩
theorem mirS_size (r : ByteArray) : (mirS r).size = r.size := by
  show r.data.toList.reverse.toArray.size = r.data.size
  simp
theorem mirS_data (r : ByteArray) : (mirS r).data.toList = r.data.toList.reverse := rfl
theorem mir_mir (r : ByteArray) : mirS (mirS r) = r := by
  cases r with
  | mk d =>
    unfold mirS
    congr 1
    show (d.toList.reverse.toArray.toList.reverse).toArray = d
    simp
theorem pl_mir (r : ByteArray) (q : Nat) (h : q ≤ r.size + 1) : pl (mirS r) (r.size + 1 - q) = pl r q := by
  have hz := mirS_size r
  by_cases h0 : q = 0
  · subst h0
    rw [pl_zero, Nat.sub_zero]
    have := pl_end (mirS r)
    rw [hz] at this
    exact this
  by_cases he : q = r.size + 1
  · subst he
    rw [pl_end, Nat.sub_self, pl_zero]
  rw [pl_list (mirS r) _ (by omega) (by omega), pl_list r q (by omega) (by omega), mirS_data]
  have hl : r.data.toList.length = r.size := data_length r
  rw [List.getD_eq_getElem?_getD, List.getD_eq_getElem?_getD, List.getElem?_reverse (by omega), hl, show r.size - 1 - (r.size + 1 - q - 1) = q - 1 by omega]
theorem way_mir {r : ByteArray} {a : Int} : ∀ (k q : Nat), q ≤ r.size + 1 → (wayN (mirS r) a k (r.size + 1 - q) ↔ fw r a k q)
 | 0, q, hq => by
  have hz := mirS_size r
  constructor
  · intro h
    have h' : r.size + 1 - q = (mirS r).size + 1 := h
    show q = 0
    omega
  · intro h
    have h' : q = 0 := h
    show r.size + 1 - q = (mirS r).size + 1
    omega
 | k + 1, q, hq => by
  have hz := mirS_size r
  constructor
  · rintro ⟨h1, h2, t, h3, h4, h5, h6⟩
    rw [pl_mir r q hq] at h2
    have e : t = r.size + 1 - (r.size + 1 - t) := by omega
    rw [e] at h6
    exact ⟨by omega, h2, r.size + 1 - t, by omega, by omega, (way_mir k _ (by omega)).1 h6⟩
  · rintro ⟨h1, h2, t, h3, h4, h5⟩
    exact ⟨by omega, by rw [pl_mir r q hq]; exact h2, r.size + 1 - t, by omega, by omega, by omega, (way_mir k t (by omega)).2 h5⟩
theorem can_mir (r : ByteArray) (a : Int) (hr : r.size ≤ 1000) : 0 ≤ Lf (mirS r) a 0 ↔ 0 ≤ Lf r a 0 := by
  have hz := mirS_size r
  constructor
  · intro h
    have h1 := Lf_way (r := mirS r) (a := a) (by omega) ((mirS r).size + 1) 0 (by omega) h
    rw [show (0 : Nat) = r.size + 1 - (r.size + 1) by omega] at h1
    have h2 := (way_mir _ (r.size + 1) (Nat.le_refl _)).1 h1
    have h3 := fw_way _ 0 (r.size + 1) (Nat.le_refl _) h2 rfl
    exact (way_Lf hr _ 0 h3).1
  · intro h
    have h1 := Lf_way hr (r.size + 1) 0 (by omega) h
    have h2 := way_fw _ 0 0 rfl h1
    have h3 := (way_mir _ (r.size + 1) (Nat.le_refl _)).2 h2
    rw [Nat.sub_self] at h3
    exact (way_Lf (r := mirS r) (by omega) _ 0 h3).1
def fillF (a : Nat) : Nat → Nat → Nat → List Nat
 | 0, _, _ => []
 | e + 1, now, q => if a < q - now then (now + a) :: fillF a e (now + a) q else []
def addL (a : Nat) : Nat → List Nat → List Nat
 | _, [] => []
 | now, q :: t => fillF a q now q ++ addL a q t
def gapsOk (a : Nat) : Nat → List Nat → Prop
 | _, [] => True
 | now, q :: t => q - now ≤ a ∧ gapsOk a q t
theorem fill_mem {a : Nat} (ha : 1 ≤ a) : ∀ (e now q : Nat), ∀ x ∈ fillF a e now q, now < x ∧ x < q
 | 0, _, _, x, hx => (List.not_mem_nil hx).elim
 | e + 1, now, q, x, hx => by
  unfold fillF at hx
  by_cases h : a < q - now
  · rw [if_pos h] at hx
    rcases List.mem_cons.1 hx with rfl | hx
    · omega
    · have := fill_mem ha e (now + a) q x hx
      omega
  · rw [if_neg h] at hx
    exact (List.not_mem_nil hx).elim
theorem fill_sorted {a : Nat} (ha : 1 ≤ a) : ∀ (e now q : Nat), (fillF a e now q).Pairwise (· < ·)
 | 0, _, _ => List.Pairwise.nil
 | e + 1, now, q => by
  unfold fillF
  split
  · exact List.Pairwise.cons (fun x hx => (fill_mem ha e (now + a) q x hx).1) (fill_sorted ha e (now + a) q)
  · exact List.Pairwise.nil
theorem add_mem {a : Nat} (ha : 1 ≤ a) : ∀ (L : List Nat) (now : Nat), (now :: L).Pairwise (· < ·) → ∀ x ∈ addL a now L, now < x ∧ x ∉ L ∧ ∃ y ∈ L, x < y
 | [], _, _, x, hx => (List.not_mem_nil hx).elim
 | q :: t, now, hp, x, hx => by
  have hp2 := List.pairwise_cons.1 hp
  have hp3 := List.pairwise_cons.1 hp2.2
  have hnq := hp2.1 q List.mem_cons_self
  rcases List.mem_append.1 hx with hx | hx
  · have h := fill_mem ha q now q x hx
    refine ⟨h.1, fun hm => ?_, q, List.mem_cons_self, h.2⟩
    rcases List.mem_cons.1 hm with rfl | hm
    · omega
    · have := hp3.1 x hm
      omega
  · obtain ⟨h1, h2, y, h3, h4⟩ := add_mem ha t q hp2.2 x hx
    refine ⟨by omega, fun hm => ?_, y, List.mem_cons_of_mem _ h3, h4⟩
    rcases List.mem_cons.1 hm with rfl | hm
    · omega
    · exact h2 hm
theorem add_sorted {a : Nat} (ha : 1 ≤ a) : ∀ (L : List Nat) (now : Nat), (now :: L).Pairwise (· < ·) → (addL a now L).Pairwise (· < ·)
 | [], _, _ => List.Pairwise.nil
 | q :: t, now, hp => by
  have hp2 := List.pairwise_cons.1 hp
  refine List.pairwise_append.2 ⟨fill_sorted ha q now q, add_sorted ha t q hp2.2, fun x hx y hy => ?_⟩
  have h1 := fill_mem ha q now q x hx
  have h2 := add_mem ha t q hp2.2 y hy
  omega
theorem fill_nil {a e now q : Nat} (he : q - now ≤ e) : fillF a e now q = [] ↔ q - now ≤ a := by
  cases e with
  | zero =>
    unfold fillF
    exact ⟨fun _ => by omega, fun _ => rfl⟩
  | succ e =>
    unfold fillF
    by_cases h : a < q - now
    · rw [if_pos h]
      exact ⟨fun hh => (by cases hh), fun hh => by omega⟩
    · rw [if_neg h]
      exact ⟨fun _ => by omega, fun _ => rfl⟩
theorem add_nil (a : Nat) : ∀ (L : List Nat) (now : Nat), addL a now L = [] ↔ gapsOk a now L
 | [], _ => ⟨fun _ => trivial, fun _ => rfl⟩
 | q :: t, now => by
  show fillF a q now q ++ addL a q t = [] ↔ _
  rw [List.append_eq_nil_iff, fill_nil (by omega), add_nil a t q]
  rfl
theorem gap_ok (a : Nat) : ∀ (L : List Nat) (m f : Int) (l : Nat), (l :: L).Pairwise (· < ·) → ((gapOf m f l L).1 ≤ (a : Int) ↔ m ≤ (a : Int) ∧ gapsOk a l L)
 | [], m, f, l, _ => ⟨fun h => ⟨h, trivial⟩, fun h => h.1⟩
 | q :: t, m, f, l, hp => by
  have hp2 := List.pairwise_cons.1 hp
  have hlq := hp2.1 q List.mem_cons_self
  unfold gapOf gapsOk
  split
  · rename_i h
    rw [gap_ok a t _ _ q hp2.2]
    exact ⟨fun hh => ⟨by omega, by omega, hh.2⟩, fun hh => ⟨by omega, hh.2.2⟩⟩
  · rename_i h
    rw [gap_ok a t _ _ q hp2.2]
    exact ⟨fun hh => ⟨hh.1, by omega, hh.2⟩, fun hh => ⟨hh.1, hh.2.2⟩⟩
theorem st_sorted (r : ByteArray) : (0 :: (List.range' 1 (r.size + 1)).filter (pl r)).Pairwise (· < ·) := by
  refine List.Pairwise.cons (fun x hx => ?_) ((List.pairwise_lt_range' (s := 1) (n := r.size + 1)).filter _)
  have := List.mem_range'_1.1 (List.mem_filter.1 hx).1
  omega
theorem add_can {r : ByteArray} (hr : r.size ≤ 1000) (a : Nat) : addL a 0 ((List.range' 1 (r.size + 1)).filter (pl r)) = [] ↔ 0 ≤ Lf r (a : Int) 0 := by
  rw [add_nil, ← gap_can hr a, gap_ok a _ 0 0 0 (st_sorted r)]
  exact ⟨fun h => ⟨by omega, h⟩, fun h => h.2⟩
theorem fill_way {s : ByteArray} {a : Nat} (ha : 1 ≤ a) (q : Nat) (hq : q ≤ s.size + 1) (hw : ∃ k, wayN s (a : Int) k q) : ∀ (e now : Nat), q - now ≤ e → now < q → pl s now = true → (∀ x ∈ fillF a e now q, pl s x = true) → ∃ k, wayN s (a : Int) k now
 | 0, now, he, hn, _, _ => by omega
 | e + 1, now, he, hn, hp, h => by
  unfold fillF at h
  by_cases hc : a < q - now
  · rw [if_pos hc] at h
    obtain ⟨k, hk⟩ := fill_way ha q hq hw e (now + a) (by omega) (by omega) (h _ List.mem_cons_self) (fun x hx => h x (List.mem_cons_of_mem _ hx))
    exact ⟨k + 1, by omega, hp, now + a, by omega, by omega, by omega, hk⟩
  · obtain ⟨k, hk⟩ := hw
    exact ⟨k + 1, by omega, hp, q, hn, hq, by omega, hk⟩
theorem add_way {s : ByteArray} {a : Nat} (ha : 1 ≤ a) : ∀ (L : List Nat) (now : Nat), (now :: L).Pairwise (· < ·) → (∀ x ∈ now :: L, x ≤ s.size + 1 ∧ pl s x = true) → (∀ x ∈ addL a now L, pl s x = true) → (now :: L).getLast (List.cons_ne_nil _ _) = s.size + 1 → ∃ k, wayN s (a : Int) k now
 | [], now, _, _, _, hl => ⟨0, hl⟩
 | q :: t, now, hp, hs, ha2, hl => by
  have hp2 := List.pairwise_cons.1 hp
  have hw := add_way ha t q hp2.2 (fun x hx => hs x (List.mem_cons_of_mem _ hx)) (fun x hx => ha2 x (List.mem_append_right _ hx)) (by rw [List.getLast_cons (List.cons_ne_nil _ _)] at hl; exact hl)
  exact fill_way ha q (hs q (List.mem_cons_of_mem _ List.mem_cons_self)).1 hw q now (by omega) (hp2.1 q List.mem_cons_self) (hs now List.mem_cons_self).2 (fun x hx => ha2 x (List.mem_append_left _ hx))
theorem st_last (r : ByteArray) : (0 :: (List.range' 1 (r.size + 1)).filter (pl r)).getLast (List.cons_ne_nil _ _) = r.size + 1 := by
  have e : 0 :: (List.range' 1 (r.size + 1)).filter (pl r) = (0 :: (List.range' 1 r.size).filter (pl r)) ++ [r.size + 1] := by
    rw [List.range'_concat, List.filter_append, show 1 + 1 * r.size = r.size + 1 by omega, List.filter_cons_of_pos (pl_end r)]
    rfl
  have h2 := congrArg List.getLast? e
  rw [List.getLast?_eq_some_getLast (List.cons_ne_nil _ _), List.getLast?_concat] at h2
  exact Option.some.inj h2
def putAllS (r : ByteArray) : List Nat → ByteArray
 | [] => r
 | x :: t => putAllS (putS r x 111) t
theorem putAll_size (r : ByteArray) : ∀ L, (putAllS r L).size = r.size := by
  intro L
  induction L generalizing r with
  | nil => rfl
  | cons x t ih =>
    show (putAllS (putS r x 111) t).size = _
    rw [ih, putS_size]
theorem putAll_pl (r : ByteArray) (q : Nat) (hq : q ≤ r.size + 1) : ∀ (L : List Nat), (∀ x ∈ L, 1 ≤ x ∧ x ≤ r.size) → pl (putAllS r L) q = (pl r q || decide (q ∈ L)) := by
  intro L
  induction L generalizing r with
  | nil => intro _; simp [putAllS]
  | cons x t ih =>
    intro h
    have hx := h x List.mem_cons_self
    show pl (putAllS (putS r x 111) t) q = _
    rw [ih (putS r x 111) (by rw [putS_size]; exact hq) (fun y hy => by rw [putS_size]; exact h y (List.mem_cons_of_mem _ hy)), pl_put r x 111 hx.1 hx.2 q hq]
    by_cases e : q = x
    · subst e
      rw [if_pos rfl]
      simp
    · rw [if_neg e]
      congr 1
      exact decide_eq_decide.2 ⟨fun hh => List.mem_cons_of_mem _ hh, fun hh => (List.mem_cons.1 hh).resolve_left e⟩
theorem putAll_good (r : ByteArray) (h : goodL r = true) : ∀ L, goodL (putAllS r L) = true := by
  intro L
  induction L generalizing r with
  | nil => exact h
  | cons x t ih => exact ih _ (good_put r x 111 rfl h)
theorem putAll_can {r : ByteArray} (hr : r.size ≤ 1000) {a : Nat} (ha : 1 ≤ a) : 0 ≤ Lf (putAllS r (addL a 0 ((List.range' 1 (r.size + 1)).filter (pl r)))) (a : Int) 0 := by
  have hsz := putAll_size r (addL a 0 ((List.range' 1 (r.size + 1)).filter (pl r)))
  have hmem : ∀ x ∈ addL a 0 ((List.range' 1 (r.size + 1)).filter (pl r)), 1 ≤ x ∧ x ≤ r.size := fun x hx => by
    obtain ⟨h1, h2, y, h3, h4⟩ := add_mem ha _ 0 (st_sorted r) x hx
    have := List.mem_range'_1.1 (List.mem_filter.1 h3).1
    omega
  obtain ⟨k, hk⟩ := add_way (s := putAllS r (addL a 0 ((List.range' 1 (r.size + 1)).filter (pl r)))) ha ((List.range' 1 (r.size + 1)).filter (pl r)) 0 (st_sorted r) (fun x hx => by
    have hx2 : x ≤ r.size + 1 ∧ pl r x = true := by
      rcases List.mem_cons.1 hx with rfl | hx
      · exact ⟨by omega, pl_zero r⟩
      · have h1 := List.mem_filter.1 hx
        have h2 := List.mem_range'_1.1 h1.1
        exact ⟨by omega, h1.2⟩
    refine ⟨by omega, ?_⟩
    rw [putAll_pl r x hx2.1 _ hmem, hx2.2, Bool.true_or]) (fun x hx => by
    have := hmem x hx
    rw [putAll_pl r x (by omega) _ hmem, decide_eq_true hx, Bool.or_true]) (by rw [st_last, hsz])
  exact (way_Lf (by omega) k 0 hk).1
theorem rdE (l : List Int) (i : Nat) : rd l (i : Int) = l.getD i 0 := by unfold rd; rw [Int.toNat_natCast]
theorem ints_app (a b : List Nat) : ints (a ++ b) = ints a ++ ints b := by unfold ints; rw [List.map_append]
theorem ints_cons (x : Nat) (b : List Nat) : ints (x :: b) = (x : Int) :: ints b := rfl
theorem ints_len (a : List Nat) : (ints a).length = a.length := by unfold ints; rw [List.length_map]
theorem ints_at (L : List Nat) (i : Nat) (h : i < L.length) : (ints L).getD i 0 = ((L.getD i 0 : Nat) : Int) := by
  have := rd_ints L i h
  rw [rdE] at this
  exact this
theorem fill_len {a : Nat} (ha : 1 ≤ a) : ∀ (e now q : Nat), (fillF a e now q).length ≤ q - now
 | 0, _, _ => Nat.zero_le _
 | e + 1, now, q => by
  unfold fillF
  split
  · have := fill_len ha e (now + a) q
    rw [List.length_cons]
    omega
  · simp
theorem ia_l1 {a : Nat} (ha : 1 ≤ a) (ha2 : a ≤ 1000) (L : List Int) (m x : Int) (q : Nat) (hq : q ≤ 1000) (res : List Int) : ∀ (e now : Nat) (acc : List Int), now ≤ 2000 → q - now ≤ e → acc.length + e ≤ 100000 →
    Ev (fun k => impl_toAdd.l0 k (a : Int) (acc ++ ints (fillF a e now q)) (q : Int) L m (wrap64 (x + 1))) res →
    Ev (fun k => impl_toAdd.l1 k (a : Int) acc (now : Int) (q : Int) L m x) res
 | 0, now, acc, hn, he, hl, h => by
  refine Ev.step (fun k => by rw [impl_toAdd.l1]) ?_
  rw [w64 (x := (q : Int) - (now : Int)) (by omega) (by omega)]
  refine evNeg (by omega) ?_
  have e0 : acc ++ ints (fillF a 0 now q) = acc := by
    show acc ++ [] = acc
    rw [List.append_nil]
  rw [e0] at h
  exact h
 | e + 1, now, acc, hn, he, hl, h => by
  refine Ev.step (fun k => by rw [impl_toAdd.l1]) ?_
  rw [w64 (x := (q : Int) - (now : Int)) (by omega) (by omega)]
  unfold fillF at h
  by_cases hc : a < q - now
  · rw [if_pos hc, ints_cons] at h
    rw [show wrap64 ((now : Int) + (a : Int)) = ((now + a : Nat) : Int) from (w64 (by omega) (by omega)).trans (by omega)]
    refine evPos (by omega) (evPos (by omega) (ia_l1 ha ha2 L m x q hq res e (now + a) (acc ++ [((now + a : Nat) : Int)]) (by omega) (by omega) (by rw [List.length_append, List.length_singleton]; omega) ?_))
    rw [List.append_assoc]
    exact h
  · rw [if_neg hc] at h
    refine evNeg (by omega) ?_
    have e0 : acc ++ ints ([] : List Nat) = acc := by
      show acc ++ [] = acc
      rw [List.append_nil]
    rw [e0] at h
    exact h
theorem ia_l0 {a : Nat} (ha : 1 ≤ a) (ha2 : a ≤ 1000) (L : List Nat) (hL : ∀ x ∈ L, x ≤ 1000) (hlen : L.length ≤ 100) : ∀ (e i now : Nat) (acc : List Int), i + e = L.length → now ≤ 1000 → acc.length + 1000 * e ≤ 100000 → Ev (fun k => impl_toAdd.l0 k (a : Int) acc (now : Int) (ints L) (L.length : Int) (i : Int)) (acc ++ ints (addL a now (L.drop i))) := by
  intro e
  induction e with
  | zero =>
    intro i now acc hi hn hl
    refine Ev.step (fun k => by rw [impl_toAdd.l0]) (evNeg (by omega) (evSome ?_))
    rw [List.drop_of_length_le (by omega)]
    show acc = acc ++ []
    rw [List.append_nil]
  | succ e ih =>
    intro i now acc hi hn hl
    have hq := hL (L.getD i 0) (by rw [← getElem_getD L i 0 (by omega)]; exact List.getElem_mem _)
    have hfl := fill_len ha (L.getD i 0) now (L.getD i 0)
    refine Ev.step (fun k => by rw [impl_toAdd.l0]) ?_
    rw [rdE, ints_at L i (by omega), ints_len]
    refine evPos (by omega) (evPos (by omega) (evPos (by omega) (ia_l1 ha ha2 (ints L) (L.length : Int) (i : Int) (L.getD i 0) hq _ (L.getD i 0) now acc (by omega) (by omega) (by omega) ?_)))
    rw [i1r i (by omega), getD_drop_cons L i 0 (by omega)]
    refine evEq (ih (i + 1) (L.getD i 0) _ (by omega) hq (by rw [List.length_append, ints_len]; omega)) ?_
    show _ = acc ++ ints (fillF a (L.getD i 0) now (L.getD i 0) ++ addL a (L.getD i 0) (L.drop (i + 1)))
    rw [ints_app, List.append_assoc]
theorem toAdd_ev {r : ByteArray} (hr : r.size ≤ 90) {a : Nat} (ha : 1 ≤ a) (ha2 : a ≤ 1000) : Ev (fun k => impl_toAdd.f k r (a : Int)) (ints (addL a 0 ((List.range' 1 (r.size + 1)).filter (pl r)))) := by
  unfold impl_toAdd.f
  refine Ev.bind (stand_ev r (by omega)) ?_
  have hlen : (stL r).length ≤ 92 := by
    unfold stL
    have := List.length_filter_le (pl r) (List.range (r.size + 2))
    rw [List.length_range] at this
    omega
  have h := ia_l0 ha ha2 (stL r) (fun x hx => by have := stL_le r x hx; omega) (by omega) (stL r).length 0 0 [] (Nat.zero_add _) (by omega) (by show 0 + 1000 * (stL r).length ≤ 100000; omega)
  rw [ints_len]
  refine evEq h ?_
  rw [List.drop_zero, stL_cons, List.nil_append]
  rfl
theorem sa_l1 {r : ByteArray} {a : Nat} (ha : 1 ≤ a) (ha2 : a ≤ 1000) (en : Int) (q : Nat) (hq : q ≤ 1000) (res : List Int) : ∀ (e now : Nat) (acc : List Int), now ≤ 2000 → q - now ≤ e → acc.length + e ≤ 100000 →
    Ev (fun k => spec_rvAdd.l0 k r (a : Int) (acc ++ ints (fillF a e now q)) (q : Int) en (wrap64 ((q : Int) + 1))) res →
    Ev (fun k => spec_rvAdd.l1 k r (a : Int) acc (now : Int) en (q : Int)) res
 | 0, now, acc, hn, he, hl, h => by
  refine Ev.step (fun k => by rw [spec_rvAdd.l1]) ?_
  rw [w64 (x := (q : Int) - (now : Int)) (by omega) (by omega)]
  refine evNeg (by omega) ?_
  have e0 : acc ++ ints (fillF a 0 now q) = acc := by
    show acc ++ [] = acc
    rw [List.append_nil]
  rw [e0] at h
  exact h
 | e + 1, now, acc, hn, he, hl, h => by
  refine Ev.step (fun k => by rw [spec_rvAdd.l1]) ?_
  rw [w64 (x := (q : Int) - (now : Int)) (by omega) (by omega)]
  unfold fillF at h
  by_cases hc : a < q - now
  · rw [if_pos hc, ints_cons] at h
    rw [show wrap64 ((now : Int) + (a : Int)) = ((now + a : Nat) : Int) from (w64 (by omega) (by omega)).trans (by omega)]
    refine evPos (by omega) (evPos (by omega) (sa_l1 ha ha2 en q hq res e (now + a) (acc ++ [((now + a : Nat) : Int)]) (by omega) (by omega) (by rw [List.length_append, List.length_singleton]; omega) ?_))
    rw [List.append_assoc]
    exact h
  · rw [if_neg hc] at h
    refine evNeg (by omega) ?_
    have e0 : acc ++ ints ([] : List Nat) = acc := by
      show acc ++ [] = acc
      rw [List.append_nil]
    rw [e0] at h
    exact h
theorem sa_l0 {r : ByteArray} (hr : r.size ≤ 90) {a : Nat} (ha : 1 ≤ a) (ha2 : a ≤ 1000) : ∀ (e p now : Nat) (acc : List Int), p + e = r.size + 2 → now ≤ 1000 → acc.length + 1000 * e ≤ 100000 → Ev (fun k => spec_rvAdd.l0 k r (a : Int) acc (now : Int) ((r.size + 1 : Nat) : Int) (p : Int)) (acc ++ ints (addL a now ((List.range' p e).filter (pl r)))) := by
  intro e
  induction e with
  | zero =>
    intro p now acc hp hn hl
    refine Ev.step (fun k => by rw [spec_rvAdd.l0]) (evNeg (by omega) (evSome ?_))
    show acc = acc ++ []
    rw [List.append_nil]
  | succ e ih =>
    intro p now acc hp hn hl
    have hfl := fill_len ha p now p
    refine Ev.step (fun k => by rw [spec_rvAdd.l0]) (evPos (by omega) (evBind0 (rvStand_eq r (by omega) p (by omega)) ?_))
    rw [List.range'_succ]
    cases hpl : pl r p with
    | true =>
      refine evPos rfl (sa_l1 ha ha2 _ p (by omega) _ p now acc (by omega) (by omega) (by omega) ?_)
      rw [i1r p (by omega), List.filter_cons_of_pos hpl]
      refine evEq (ih (p + 1) p _ (by omega) (by omega) (by rw [List.length_append, ints_len]; omega)) ?_
      show _ = acc ++ ints (fillF a p now p ++ addL a p ((List.range' (p + 1) e).filter (pl r)))
      rw [ints_app, List.append_assoc]
    | false =>
      rw [i1r p (by omega), List.filter_cons_of_neg (by rw [hpl]; exact Bool.false_ne_true)]
      exact evNeg (by simp) (ih (p + 1) now acc (by omega) hn (by omega))
theorem rvAdd_ev {r : ByteArray} (hr : r.size ≤ 90) {a : Nat} (ha : 1 ≤ a) (ha2 : a ≤ 1000) : Ev (fun k => spec_rvAdd.f k r (a : Int)) (ints (addL a 0 ((List.range' 1 (r.size + 1)).filter (pl r)))) := by
  unfold spec_rvAdd.f
  rw [i1r r.size (by omega)]
  have h := sa_l0 hr ha ha2 (r.size + 1) 1 0 [] (by omega) (by omega) (by show 0 + 1000 * (r.size + 1) ≤ 100000; omega)
  refine evEq h ?_
  rw [List.nil_append]
def adsF (r : ByteArray) (a : Int) : List Int × Bool := if askB r a = true then (ints (addL a.toNat 0 ((List.range' 1 (r.size + 1)).filter (pl r))), true) else ([], false)
theorem Add_impl (r : ByteArray) (a : Int) (h : r.size ≤ 1000000) : Ev (fun k => impl_StonesToAdd.f k r a) (adsF r a) := by
  unfold impl_StonesToAdd.f adsF
  refine evBind0 (ask_impl r a h) ?_
  by_cases hq : askB r a = true
  · obtain ⟨_, h1, h2, h3, h4⟩ := askB_facts hq
    rw [if_pos hq]
    obtain ⟨n, rfl⟩ : ∃ n : Nat, a = (n : Int) := ⟨a.toNat, by omega⟩
    rw [Int.toNat_natCast]
    exact evPos hq (Ev.bind (toAdd_ev (by omega) (by omega) (by omega)) (evSome rfl))
  · rw [if_neg hq]
    exact evNeg hq (evSome rfl)
theorem Add_spec (r : ByteArray) (a : Int) : Ev (fun k => spec_StonesToAdd.f k r a) (adsF r a) := by
  unfold spec_StonesToAdd.f adsF
  refine Ev.bind (ask_spec r a) ?_
  by_cases hq : askB r a = true
  · obtain ⟨_, h1, h2, h3, h4⟩ := askB_facts hq
    rw [if_pos hq]
    obtain ⟨n, rfl⟩ : ∃ n : Nat, a = (n : Int) := ⟨a.toNat, by omega⟩
    rw [Int.toNat_natCast]
    exact evPos hq (Ev.bind (rvAdd_ev (by omega) (by omega) (by omega)) (evSome rfl))
  · rw [if_neg hq]
    exact evNeg hq (evSome rfl)
def fadF (r : ByteArray) (a : Int) : Int × Bool := (((adsF r a).1.length : Int), (adsF r a).2)
theorem FewAdd_impl (r : ByteArray) (a : Int) (h : r.size ≤ 1000000) : Ev (fun k => impl_FewestToAdd.f k r a) (fadF r a) := by
  unfold impl_FewestToAdd.f
  exact Ev.bind (Add_impl r a h) (evSome rfl)
theorem FewAdd_spec (r : ByteArray) (a : Int) : Ev (fun k => spec_FewestToAdd.f k r a) (fadF r a) := by
  unfold spec_FewestToAdd.f fadF adsF
  refine Ev.bind (ask_spec r a) ?_
  by_cases hq : askB r a = true
  · obtain ⟨_, h1, h2, h3, h4⟩ := askB_facts hq
    rw [if_pos hq]
    obtain ⟨n, rfl⟩ : ∃ n : Nat, a = (n : Int) := ⟨a.toNat, by omega⟩
    rw [Int.toNat_natCast]
    exact evPos hq (Ev.bind (rvAdd_ev (by omega) (by omega) (by omega)) (evSome rfl))
  · rw [if_neg hq]
    exact evNeg hq (evSome rfl)
def gapN (r : ByteArray) : Int × Int := gapOf 0 0 0 ((List.range' 1 (r.size + 1)).filter (pl r))
theorem way_avoid {r : ByteArray} {a : Int} (hr : r.size ≤ 1000) (p : Nat) (h1 : 1 ≤ p) (h2 : p ≤ r.size) : ∀ (m q : Nat), q ≤ r.size + 1 → Lf r a q = (m : Int) → p ∉ wayL r a m q → q ≠ p → wayN (putS r p 46) a m q
 | 0, q, hq, hL, _, _ => by
  have hz := putS_size r p 46
  have e : q = r.size + 1 := by
    by_cases he : q = r.size + 1
    · exact he
    · exfalso
      cases hb : pl r q with
      | false =>
        have := Lf_no (a := a) hr (show q ≤ r.size by omega) hb
        omega
      | true =>
        rcases Lf_some (a := a) hr (show q ≤ r.size by omega) hb with ⟨h1, _⟩ | ⟨t, _, _, _, h4, h5, _⟩ <;> omega
  show q = (putS r p 46).size + 1
  omega
 | m + 1, q, hq, hL, hn, hne => by
  have hz := putS_size r p 46
  obtain ⟨g1, g2, g3, g4, _⟩ := nxP_ok hr hq hL
  have hn' : p ∉ nxP r a m q :: wayL r a m (nxP r a m q) := hn
  have hpl : pl r q = true := by
    by_cases he : q = r.size + 1
    · omega
    · cases hb : pl r q with
      | true => rfl
      | false =>
        have := Lf_no (a := a) hr (show q ≤ r.size by omega) hb
        omega
  refine ⟨by omega, ?_, nxP r a m q, g1, by omega, g3, way_avoid hr p h1 h2 m _ g2 g4 (fun hm => hn' (List.mem_cons_of_mem _ hm)) (fun e => hn' (by rw [← e]; exact List.mem_cons_self))⟩
  rw [pl_put r p 46 h1 h2 q (by omega), if_neg hne]
  exact hpl
theorem needed_in {r : ByteArray} {a : Int} (hr : r.size ≤ 1000) (p : Nat) (h1 : 1 ≤ p) (h2 : p ≤ r.size) (hc : 0 ≤ Lf r a 0) (hn : ¬ 0 ≤ Lf (putS r p 46) a 0) : p ∈ wayL r a (Lf r a 0).toNat 0 := by
  by_cases hm : p ∈ wayL r a (Lf r a 0).toNat 0
  · exact hm
  · exfalso
    have hz := putS_size r p 46
    have hw := way_avoid hr p h1 h2 (Lf r a 0).toNat 0 (by omega) (by omega) hm (by omega)
    exact hn (way_Lf (r := putS r p 46) (by omega) _ 0 hw).1
theorem put_le {r : ByteArray} (p : Nat) (h1 : 1 ≤ p) (h2 : p ≤ r.size) : ∀ q, q ≤ r.size + 1 → pl (putS r p 46) q = true → pl r q = true := by
  intro q hq h
  rw [pl_put r p 46 h1 h2 q hq] at h
  by_cases e : q = p
  · rw [if_pos e] at h
    exact absurd h (by decide)
  · rw [if_neg e] at h
    exact h
theorem idle_same {r : ByteArray} {a : Int} (hr : r.size ≤ 1000) (p : Nat) (h1 : 1 ≤ p) (h2 : p ≤ r.size) (no : ∀ j k, fw r a j p → wayN r a k p → False) : 0 ≤ Lf (putS r p 46) a 0 ↔ 0 ≤ Lf r a 0 := by
  have hz := putS_size r p 46
  constructor
  · intro h
    have hw := Lf_way (r := putS r p 46) (a := a) (by omega) ((putS r p 46).size + 1) 0 (by omega) h
    exact (way_Lf hr _ 0 (way_sub hz (put_le p h1 h2) _ 0 hw)).1
  · intro h
    have hw := Lf_way hr (r.size + 1) 0 (by omega) h
    have := way_less (s := putS r p 46) p hz h2 (fun q hq hne => by rw [pl_put r p 46 h1 h2 q hq, if_neg hne]) no _ 0 0 (by omega) rfl hw
    exact (way_Lf (r := putS r p 46) (by omega) _ 0 this).1
theorem way_mem {r : ByteArray} {a : Int} (hr : r.size ≤ 1000) (p : Nat) : ∀ (m q j : Nat), q ≤ r.size + 1 → Lf r a q = (m : Int) → pl r q = true → fw r a j q → p ∈ wayL r a m q → ∃ j k, fw r a j p ∧ wayN r a k p
 | 0, _, _, _, _, _, _, hm => (List.not_mem_nil hm).elim
 | m + 1, q, j, hq, hL, hp, hf, hm => by
  obtain ⟨g1, g2, g3, g4, _⟩ := nxP_ok hr hq hL
  have hpl : pl r (nxP r a m q) = true := by
    by_cases he : nxP r a m q = r.size + 1
    · rw [he]
      exact pl_end r
    · cases hb : pl r (nxP r a m q) with
      | true => rfl
      | false =>
        have := Lf_no (a := a) hr (show nxP r a m q ≤ r.size by omega) hb
        omega
  have hf2 : fw r a (j + 1) (nxP r a m q) := ⟨by omega, hpl, q, g1, by omega, hf⟩
  have hm' : p ∈ nxP r a m q :: wayL r a m (nxP r a m q) := hm
  rcases List.mem_cons.1 hm' with rfl | hm'
  · have hw := Lf_way (a := a) hr (r.size + 1 - nxP r a m q) (nxP r a m q) (by omega) (by omega)
    exact ⟨_, _, hf2, hw⟩
  · exact way_mem hr p m _ (j + 1) g2 g4 hpl hf2 hm'
theorem idle_no {r : ByteArray} (hr : r.size ≤ 1000) (a : Nat) (p : Nat) (h : ¬ (farN r a p = p ∧ 0 ≤ Lf r (a : Int) p)) : ∀ j k, fw r (a : Int) j p → wayN r (a : Int) k p → False := fun j k hf hw => h ⟨(far_fw r a p).2 ⟨j, hf⟩, (way_Lf hr k p hw).1⟩
theorem mir_far {r : ByteArray} (hr : r.size ≤ 1000) (a : Nat) (p : Nat) (hp : p ≤ r.size + 1) : 0 ≤ Lf (mirS r) (a : Int) (r.size + 1 - p) ↔ farN r a p = p := by
  have hz := mirS_size r
  rw [far_fw]
  constructor
  · intro h
    have hw := Lf_way (r := mirS r) (a := (a : Int)) (by omega) p (r.size + 1 - p) (by omega) h
    exact ⟨_, (way_mir _ p hp).1 hw⟩
  · rintro ⟨k, hk⟩
    exact (way_Lf (r := mirS r) (by omega) k _ ((way_mir k p hp).2 hk)).1
theorem gap_at : ∀ (L : List Nat) (m f : Int) (l : Nat), (l :: L).Pairwise (· < ·) → gapOf m f l L = (m, f) ∨ ∃ x y : Nat, x ∈ l :: L ∧ y ∈ L ∧ x < y ∧ gapOf m f l L = ((y : Int) - (x : Int), (x : Int))
 | [], m, f, l, _ => .inl rfl
 | q :: t, m, f, l, hp => by
  have hp2 := List.pairwise_cons.1 hp
  have hlq := hp2.1 q List.mem_cons_self
  unfold gapOf
  split
  · rename_i h
    rcases gap_at t ((q : Int) - (l : Int)) (l : Int) q hp2.2 with h1 | ⟨x, y, h1, h2, h3, h4⟩
    · exact .inr ⟨l, q, List.mem_cons_self, List.mem_cons_self, hlq, h1⟩
    · exact .inr ⟨x, y, List.mem_cons_of_mem _ h1, List.mem_cons_of_mem _ h2, h3, h4⟩
  · rename_i h
    rcases gap_at t m f q hp2.2 with h1 | ⟨x, y, h1, h2, h3, h4⟩
    · exact .inl h1
    · exact .inr ⟨x, y, List.mem_cons_of_mem _ h1, List.mem_cons_of_mem _ h2, h3, h4⟩
theorem gap_facts (r : ByteArray) : 1 ≤ (gapN r).1 ∧ 0 ≤ (gapN r).2 ∧ (gapN r).2 + (gapN r).1 ≤ ((r.size + 1 : Nat) : Int) := by
  have hs := st_sorted r
  have hne : (List.range' 1 (r.size + 1)).filter (pl r) ≠ [] := by
    intro h
    have : r.size + 1 ∈ (List.range' 1 (r.size + 1)).filter (pl r) := List.mem_filter.2 ⟨List.mem_range'_1.2 ⟨by omega, by omega⟩, pl_end r⟩
    rw [h] at this
    exact List.not_mem_nil this
  rcases gap_at _ 0 0 0 hs with h | ⟨x, y, h1, h2, h3, h4⟩
  · exfalso
    obtain ⟨q, t, e⟩ := List.exists_cons_of_ne_nil hne
    rw [e] at h hs
    have hq := (List.pairwise_cons.1 hs).1 q List.mem_cons_self
    unfold gapOf at h
    rw [if_pos (by omega)] at h
    have := gapOf_ge t ((q : Int) - ((0 : Nat) : Int)) ((0 : Nat) : Int) q
    rw [h] at this
    dsimp only at this
    omega
  · have hy := List.mem_range'_1.1 (List.mem_filter.1 h2).1
    have e : gapN r = ((y : Int) - (x : Int), (x : Int)) := h4
    rw [e]
    dsimp only
    omega
theorem gap_mir {r : ByteArray} (hr : r.size ≤ 1000) : (gapN (mirS r)).1 = (gapN r).1 := by
  have hz := mirS_size r
  have h1 := (gap_facts r).1
  have h2 := (gap_facts (mirS r)).1
  obtain ⟨x, hx⟩ : ∃ x : Nat, (gapN r).1 = (x : Int) := ⟨(gapN r).1.toNat, by omega⟩
  obtain ⟨y, hy⟩ : ∃ y : Nat, (gapN (mirS r)).1 = (y : Int) := ⟨(gapN (mirS r)).1.toNat, by omega⟩
  have g : ∀ n : Nat, (gapN r).1 ≤ (n : Int) ↔ (gapN (mirS r)).1 ≤ (n : Int) := fun n => by
    have a1 : (gapN r).1 ≤ (n : Int) ↔ 0 ≤ Lf r (n : Int) 0 := gap_can hr n
    have a2 : (gapN (mirS r)).1 ≤ (n : Int) ↔ 0 ≤ Lf (mirS r) (n : Int) 0 := gap_can (by omega) n
    rw [a1, a2, can_mir r _ hr]
  have g1 := (g x).1 (by omega)
  have g2 := (g y).2 (by omega)
  omega
theorem bytes_eq {a b : ByteArray} (h : a.data.toList = b.data.toList) : a = b := by
  cases a
  cases b
  congr 1
  exact Array.toList_inj.1 h
theorem ext_list (s : ByteArray) (a b : Nat) : (s.extract a b).data.toList = (s.data.toList.take b).drop a := by
  rw [ByteArray.data_extract, Array.toList_extract]
  rw [List.extract_eq_take_drop, List.drop_take]
theorem app_list (a b : ByteArray) : (a ++ b).data.toList = a.data.toList ++ b.data.toList := by
  rw [ByteArray.data_append, Array.toList_append]
theorem put_ext (r x : ByteArray) (c : UInt8) (hx : x.data.toList = [c]) (p : Nat) (h1 : 1 ≤ p) (h2 : p ≤ r.size) : ((r.extract 0 (p - 1)) ++ x) ++ (r.extract p r.size) = putS r p c := by
  have hl : r.data.toList.length = r.size := data_length r
  apply bytes_eq
  rw [putS_data, app_list, app_list, ext_list, ext_list, hx, List.drop_zero]
  apply List.ext_getElem?
  intro i
  rw [List.getElem?_set]
  rcases Nat.lt_trichotomy i (p - 1) with h | h | h
  · rw [if_neg (by omega), List.append_assoc, List.getElem?_append_left (by rw [List.length_take]; omega), List.getElem?_take_of_lt h]
  · subst h
    rw [if_pos rfl, if_pos (by omega), List.append_assoc, List.getElem?_append_right (by rw [List.length_take]; omega), List.length_take, Nat.min_eq_left (by omega), Nat.sub_self]
    rfl
  · rw [if_neg (by omega), List.append_assoc, List.getElem?_append_right (by rw [List.length_take]; omega), List.length_take, Nat.min_eq_left (by omega)]
    rw [List.getElem?_append_right (by rw [List.length_singleton]; omega), List.length_singleton, List.getElem?_drop, show p + (i - (p - 1) - 1) = i by omega]
    by_cases hi : i < r.size
    · rw [List.getElem?_take_of_lt hi]
    · rw [List.getElem?_eq_none (by rw [List.length_take]; omega), List.getElem?_eq_none (by omega)]
theorem str_one (c : UInt8) : (strOfNums [((c.toNat : Nat) : Int)]).data.toList = [c] := by
  unfold strOfNums
  simp
theorem put_eq (r : ByteArray) (hr : r.size ≤ 1000000) (p : Nat) (h1 : 1 ≤ p) (h2 : p ≤ r.size) (c : UInt8) : impl_put.f r (p : Int) ((c.toNat : Nat) : Int) = some (putS r p c) := by
  unfold impl_put.f
  rw [show wrap64 ((p : Int) - 1) = ((p - 1 : Nat) : Int) from (w64 (by omega) (by omega)).trans (by omega)]
  have q1 : (r.extract 0 (p - 1)).size = p - 1 := by rw [ByteArray.size_extract]; omega
  have q2 : (r.extract p r.size).size = r.size - p := by rw [ByteArray.size_extract]; omega
  have q3 : (strOfNums [((c.toNat : Nat) : Int)]).size = 1 := by rw [strOfNums_size]; rfl
  rw [if_pos (by omega), if_pos (by omega)]
  show (if (r.extract 0 ((p - 1 : Nat) : Int).toNat).size + (strOfNums [((c.toNat : Nat) : Int)]).size ≤ 9223372036854775807 then _ else _) = _
  rw [Int.toNat_natCast, Int.toNat_natCast, if_pos (by omega), if_pos (by omega), if_pos (by omega), if_pos (by rw [ByteArray.size_append]; omega), put_ext r _ c (str_one c) p h1 h2]
theorem without_eq (r : ByteArray) (hr : r.size ≤ 1000000) (p : Nat) (h1 : 1 ≤ p) (h2 : p ≤ r.size) : spec_rvWithout.f r (p : Int) = some (putS r p 46) := by
  unfold spec_rvWithout.f
  rw [show wrap64 ((p : Int) - 1) = ((p - 1 : Nat) : Int) from (w64 (by omega) (by omega)).trans (by omega)]
  have q1 : (r.extract 0 (p - 1)).size = p - 1 := by rw [ByteArray.size_extract]; omega
  have q2 : (r.extract p r.size).size = r.size - p := by rw [ByteArray.size_extract]; omega
  have q3 : (⟨#[46]⟩ : ByteArray).size = 1 := rfl
  rw [Int.toNat_natCast, Int.toNat_natCast, if_pos (by omega), if_pos (by omega), if_pos (by omega), if_pos (by omega), if_pos (by omega), if_pos (by rw [ByteArray.size_append]; omega), put_ext r _ 46 rfl p h1 h2]
def inR (r : ByteArray) (p : Int) : Prop := goodL r = true ∧ 1 ≤ p ∧ p ≤ (r.size : Int)
instance (r : ByteArray) (p : Int) : Decidable (inR r p) := by unfold inR; exact inferInstance
def psF (r : ByteArray) (p : Int) : ByteArray × Bool := if inR r p ∧ pl r p.toNat = false then (putS r p.toNat 111, true) else (⟨#[]⟩, false)
def tkF (r : ByteArray) (p : Int) : ByteArray × Bool := if inR r p ∧ pl r p.toNat = true then (putS r p.toNat 46, true) else (⟨#[]⟩, false)
theorem inB_one (p n : Int) : inB p 1 n = true ↔ 1 ≤ p ∧ p ≤ n := by
  unfold inB
  rw [Bool.and_eq_true]
  simp
theorem sign_or {r : ByteArray} (h : goodL r = true) (p : Nat) (h1 : 1 ≤ p) (h2 : p ≤ r.size) : bt r ((p - 1 : Nat) : Int) = 111 ∧ pl r p = true ∨ bt r ((p - 1 : Nat) : Int) = 46 ∧ pl r p = false := by
  have hs : rvSign (r.data.toList.getD (p - 1) 0) = true := by
    unfold goodL at h
    rw [Bool.and_eq_true, List.all_eq_true] at h
    have hl : r.data.toList.length = r.size := data_length r
    refine h.2 _ ?_
    rw [← getElem_getD _ (p - 1) 0 (by omega)]
    exact List.getElem_mem _
  rw [bt_list r (p - 1) (by omega), pl_list r p h1 h2]
  unfold rvSign at hs
  rw [Bool.or_eq_true, beq_iff_eq, beq_iff_eq] at hs
  rcases hs with e | e
  · exact .inl (by rw [e]; exact ⟨rfl, rfl⟩)
  · exact .inr (by rw [e]; exact ⟨rfl, rfl⟩)
theorem Put_impl (r : ByteArray) (hr : r.size ≤ 1000000) (p : Int) : impl_PutStone.f r p = some (psF r p) := by
  unfold impl_PutStone.f psF
  rw [IsRiver_eq r (by omega)]
  simp only [Option.bind_some]
  by_cases hg : goodL r = true
  · rw [if_pos hg, within_eq]
    simp only [Option.bind_some]
    by_cases hp : 1 ≤ p ∧ p ≤ (r.size : Int)
    · obtain ⟨n, rfl⟩ : ∃ n : Nat, p = (n : Int) := ⟨p.toNat, by omega⟩
      rw [if_pos ((inB_one _ _).2 hp), show wrap64 ((n : Int) - 1) = ((n - 1 : Nat) : Int) from (w64 (by omega) (by omega)).trans (by omega), if_pos (by omega), if_pos (by omega), Int.toNat_natCast]
      rcases sign_or hg n (by omega) (by omega) with ⟨h1, h2⟩ | ⟨h1, h2⟩
      · rw [if_pos h1, if_neg (fun hh => by rw [h2] at hh; exact Bool.noConfusion hh.2)]
      · rw [if_neg (by rw [h1]; decide), if_pos ⟨⟨hg, hp⟩, h2⟩, show (111 : Int) = (((111 : UInt8).toNat : Nat) : Int) from rfl, put_eq r hr n (by omega) (by omega)]
        rfl
    · rw [if_neg (fun hh => hp ((inB_one _ _).1 hh)), if_neg (fun hh => hp hh.1.2)]
  · rw [if_neg hg, if_neg (fun hh => hg hh.1.1)]
theorem Take_impl (r : ByteArray) (hr : r.size ≤ 1000000) (p : Int) : impl_TakeStone.f r p = some (tkF r p) := by
  unfold impl_TakeStone.f tkF
  rw [IsRiver_eq r (by omega)]
  simp only [Option.bind_some]
  by_cases hg : goodL r = true
  · rw [if_pos hg, within_eq]
    simp only [Option.bind_some]
    by_cases hp : 1 ≤ p ∧ p ≤ (r.size : Int)
    · obtain ⟨n, rfl⟩ : ∃ n : Nat, p = (n : Int) := ⟨p.toNat, by omega⟩
      rw [if_pos ((inB_one _ _).2 hp), show wrap64 ((n : Int) - 1) = ((n - 1 : Nat) : Int) from (w64 (by omega) (by omega)).trans (by omega), if_pos (by omega), if_pos (by omega), Int.toNat_natCast]
      rcases sign_or hg n (by omega) (by omega) with ⟨h1, h2⟩ | ⟨h1, h2⟩
      · rw [if_neg (by rw [h1]; decide), if_pos ⟨⟨hg, hp⟩, h2⟩, show (46 : Int) = (((46 : UInt8).toNat : Nat) : Int) from rfl, put_eq r hr n (by omega) (by omega)]
        rfl
      · rw [if_pos h1, if_neg (fun hh => by rw [h2] at hh; exact Bool.noConfusion hh.2)]
    · rw [if_neg (fun hh => hp ((inB_one _ _).1 hh)), if_neg (fun hh => hp hh.1.2)]
  · rw [if_neg hg, if_neg (fun hh => hg hh.1.1)]
theorem ps_no {r : ByteArray} {p : Int} (h : ¬ (inR r p ∧ pl r p.toNat = false)) : psF r p = (⟨#[]⟩, false) := if_neg h
theorem tk_no {r : ByteArray} {p : Int} (h : ¬ (inR r p ∧ pl r p.toNat = true)) : tkF r p = (⟨#[]⟩, false) := if_neg h
theorem ps_yes {r : ByteArray} {n : Nat} (h : inR r (n : Int)) (h2 : pl r n = false) : psF r (n : Int) = (putS r n 111, true) := if_pos ⟨h, h2⟩
theorem tk_yes {r : ByteArray} {n : Nat} (h : inR r (n : Int)) (h2 : pl r n = true) : tkF r (n : Int) = (putS r n 46, true) := if_pos ⟨h, h2⟩
theorem Put_spec (r : ByteArray) (p : Int) : Ev (fun k => spec_PutStone.f k r p) (psF r p) := by
  unfold spec_PutStone.f
  refine Ev.bind (rvGood_ev r) ?_
  by_cases hg : goodL r = true
  · have h8 := goodL_len r hg
    refine evPos hg (evBind0 (l1In_eq _ _ _) ?_)
    by_cases hp : 1 ≤ p ∧ p ≤ (r.size : Int)
    · obtain ⟨n, rfl⟩ : ∃ n : Nat, p = (n : Int) := ⟨p.toNat, by omega⟩
      refine evPos ((inB_one _ _).2 hp) (evBind0 (rvStand_eq r (by omega) n (by omega)) ?_)
      cases hpl : pl r n with
      | true =>
        rw [ps_no (fun hh => by have h3 : pl r n = false := hh.2; rw [hpl] at h3; exact Bool.noConfusion h3)]
        exact evPos rfl (evSome rfl)
      | false =>
        have q1 : (r.extract 0 (n - 1)).size = n - 1 := by rw [ByteArray.size_extract]; omega
        have q2 : (r.extract n r.size).size = r.size - n := by rw [ByteArray.size_extract]; omega
        have q3 : (⟨#[111]⟩ : ByteArray).size = 1 := rfl
        rw [ps_yes ⟨hg, hp⟩ hpl, show wrap64 ((n : Int) - 1) = ((n - 1 : Nat) : Int) from (w64 (by omega) (by omega)).trans (by omega), Int.toNat_natCast, Int.toNat_natCast]
        refine evNeg (by simp) (evPos (by omega) (evPos (by omega) (evPos (by omega) (evPos (by omega) (evPos (by omega) (evPos (by rw [ByteArray.size_append]; omega) (evSome ?_)))))))
        rw [put_ext r _ 111 rfl n (by omega) (by omega)]
    · rw [ps_no (fun hh => hp hh.1.2)]
      exact evNeg (fun hh => hp ((inB_one _ _).1 hh)) (evSome rfl)
  · rw [ps_no (fun hh => hg hh.1.1)]
    exact evNeg hg (evSome rfl)
theorem Take_spec (r : ByteArray) (p : Int) : Ev (fun k => spec_TakeStone.f k r p) (tkF r p) := by
  unfold spec_TakeStone.f
  refine Ev.bind (rvGood_ev r) ?_
  by_cases hg : goodL r = true
  · have h8 := goodL_len r hg
    refine evPos hg (evBind0 (l1In_eq _ _ _) ?_)
    by_cases hp : 1 ≤ p ∧ p ≤ (r.size : Int)
    · obtain ⟨n, rfl⟩ : ∃ n : Nat, p = (n : Int) := ⟨p.toNat, by omega⟩
      refine evPos ((inB_one _ _).2 hp) (evBind0 (rvStand_eq r (by omega) n (by omega)) ?_)
      cases hpl : pl r n with
      | true =>
        rw [tk_yes ⟨hg, hp⟩ hpl]
        exact evPos rfl (evBind0 (without_eq r (by omega) n (by omega) (by omega)) (evSome rfl))
      | false =>
        rw [tk_no (fun hh => by have h3 : pl r n = true := hh.2; rw [hpl] at h3; exact Bool.noConfusion h3)]
        exact evNeg (by simp) (evSome rfl)
    · rw [tk_no (fun hh => hp hh.1.2)]
      exact evNeg (fun hh => hp ((inB_one _ _).1 hh)) (evSome rfl)
  · rw [tk_no (fun hh => hg hh.1.1)]
    exact evNeg hg (evSome rfl)
def mrF (r : ByteArray) : ByteArray × Bool := if goodL r = true then (mirS r, true) else (⟨#[]⟩, false)
theorem mirrored_eq (r : ByteArray) (hr : r.size ≤ 1000000) : impl_mirrored.f r = some (mirS r) := by
  unfold impl_mirrored.f
  rw [if_pos hr]
  congr 1
  apply bytes_eq
  rw [mirS_data]
  unfold strOfNums mirN
  rw [← List.map_reverse]
  simp [Function.comp_def]
theorem Mirror_impl (r : ByteArray) (hr : r.size ≤ 1000000) : impl_MirrorRiver.f r = some (mrF r) := by
  unfold impl_MirrorRiver.f mrF
  rw [IsRiver_eq r (by omega)]
  simp only [Option.bind_some]
  by_cases hg : goodL r = true
  · rw [if_pos hg, if_pos hg, mirrored_eq r hr]
    rfl
  · rw [if_neg hg, if_neg hg]
theorem mirror_l0 (r : ByteArray) (hr : r.size ≤ 1000) : ∀ (n : Nat) (acc : ByteArray), n ≤ r.size → acc.data.toList = (r.data.toList.drop n).reverse → Ev (fun k => spec_MirrorRiver.l0 k r acc ((n : Int) - 1)) (mirS r, true) := by
  have hl : r.data.toList.length = r.size := data_length r
  intro n
  induction n with
  | zero =>
    intro acc hn ha
    refine Ev.step (fun k => by rw [spec_MirrorRiver.l0]) (evNeg (by omega) (evSome ?_))
    congr 1
    apply bytes_eq
    rw [ha, mirS_data, List.drop_zero]
  | succ n ih =>
    intro acc hn ha
    have hacc : acc.size = r.size - (n + 1) := by
      have : acc.data.toList.length = acc.size := data_length acc
      rw [ha, List.length_reverse, List.length_drop] at this
      omega
    have q1 : (r.extract n (n + 1)).size = 1 := by rw [ByteArray.size_extract]; omega
    have nxt := ih (acc ++ r.extract n (n + 1)) (by omega) (by
      rw [app_list, ha, ext_list, List.drop_eq_getElem_cons (show n < r.data.toList.length by omega), List.reverse_cons]
      congr 1
      rw [List.drop_take, show n + 1 - n = 1 by omega, List.drop_eq_getElem_cons (show n < r.data.toList.length by omega)]
      rfl)
    refine Ev.step (fun k => by rw [spec_MirrorRiver.l0]) ?_
    rw [show ((n + 1 : Nat) : Int) - 1 = (n : Int) by omega, show wrap64 ((n : Int) + 1) = ((n + 1 : Nat) : Int) from (w64 (by omega) (by omega)).trans (by omega), show wrap64 ((n : Int) - 1) = (n : Int) - 1 from w64 (by omega) (by omega), Int.toNat_natCast, Int.toNat_natCast]
    exact evPos (by omega) (evPos (by omega) (evPos (by omega) (evPos (by omega) (evPos (by omega) nxt))))
theorem Mirror_spec (r : ByteArray) : Ev (fun k => spec_MirrorRiver.f k r) (mrF r) := by
  unfold spec_MirrorRiver.f mrF
  refine Ev.bind (rvGood_ev r) ?_
  by_cases hg : goodL r = true
  · have h8 := goodL_len r hg
    have hl : r.data.toList.length = r.size := data_length r
    rw [if_pos hg, w64 (x := (r.size : Int) - 1) (by omega) (by omega)]
    refine evPos hg (mirror_l0 r (by omega) r.size (⟨#[]⟩ : ByteArray) (Nat.le_refl _) ?_)
    rw [List.drop_of_length_le (by omega)]
    rfl
  · rw [if_neg hg]
    exact evNeg hg (evSome rfl)
def jnF (a b : ByteArray) : ByteArray × Bool := if goodL a = true ∧ goodL b = true ∧ a.size + b.size ≤ 40 then (a ++ b, true) else (⟨#[]⟩, false)
theorem good_app (a b : ByteArray) (ha : goodL a = true) (hb : goodL b = true) : goodL (a ++ b) = decide (a.size + b.size ≤ 40) := by
  have h1 := goodL_len a ha
  unfold goodL at ha hb ⊢
  rw [Bool.and_eq_true] at ha hb
  rw [app_list, List.all_append, ha.2, hb.2, Bool.and_true, Bool.and_true, ByteArray.size_append]
  unfold inB
  rw [decide_eq_true (show (1 : Int) ≤ ((a.size + b.size : Nat) : Int) by omega), Bool.true_and]
  exact decide_eq_decide.2 ⟨fun h => by omega, fun h => by omega⟩
theorem Join_impl (a b : ByteArray) (ha : a.size ≤ 1000000) (hb : b.size ≤ 1000000) : impl_JoinRivers.f a b = some (jnF a b) := by
  unfold impl_JoinRivers.f jnF
  rw [IsRiver_eq a (by omega), IsRiver_eq b (by omega), IsRiver_eq (a ++ b) (by rw [ByteArray.size_append]; omega)]
  simp only [Option.bind_some]
  by_cases h1 : goodL a = true
  · rw [if_pos h1]
    by_cases h2 : goodL b = true
    · rw [if_pos h2, if_pos (by omega), good_app a b h1 h2]
      by_cases h3 : a.size + b.size ≤ 40
      · rw [if_pos (decide_eq_true h3), if_pos ⟨h1, h2, h3⟩]
      · rw [if_neg (by rw [decide_eq_false h3]; simp), if_neg (fun hh => h3 hh.2.2)]
    · rw [if_neg h2, if_neg (fun hh => h2 hh.2.1)]
  · rw [if_neg h1, if_neg (fun hh => h1 hh.1)]
theorem jn_no {a b : ByteArray} (h : ¬ (goodL a = true ∧ goodL b = true ∧ a.size + b.size ≤ 40)) : jnF a b = (⟨#[]⟩, false) := if_neg h
theorem jn_yes {a b : ByteArray} (h : goodL a = true ∧ goodL b = true ∧ a.size + b.size ≤ 40) : jnF a b = (a ++ b, true) := if_pos h
theorem Join_spec (a b : ByteArray) : Ev (fun k => spec_JoinRivers.f k a b) (jnF a b) := by
  unfold spec_JoinRivers.f
  refine Ev.bind (rvGood_ev a) ?_
  by_cases h1 : goodL a = true
  · refine evPos h1 (Ev.bind (rvGood_ev b) ?_)
    by_cases h2 : goodL b = true
    · have g1 := goodL_len a h1
      have g2 := goodL_len b h2
      rw [w64 (x := (a.size : Int) + (b.size : Int)) (by omega) (by omega)]
      refine evPos h2 ?_
      by_cases h3 : a.size + b.size ≤ 40
      · rw [jn_yes ⟨h1, h2, h3⟩]
        exact evNeg (by omega) (evPos (by omega) (evSome rfl))
      · rw [jn_no (fun hh => h3 hh.2.2)]
        exact evPos (by omega) (evSome rfl)
    · rw [jn_no (fun hh => h2 hh.2.1)]
      exact evNeg h2 (evSome rfl)
  · rw [jn_no (fun hh => h1 hh.1)]
    exact evNeg h1 (evSome rfl)
def lgF (r : ByteArray) : Int × Int × Bool := if goodL r = true then ((gapN r).1, (gapN r).2, true) else (0, 0, false)
def llF (r : ByteArray) : Int × Bool := if goodL r = true then ((gapN r).1, true) else (0, false)
theorem Long_impl (r : ByteArray) (hr : r.size ≤ 1000000) : Ev (fun k => impl_LongestGap.f k r) (lgF r) := by
  unfold impl_LongestGap.f lgF
  refine evBind0 (IsRiver_eq r (by omega)) ?_
  by_cases hg : goodL r = true
  · have h8 := goodL_len r hg
    rw [if_pos hg]
    exact evPos hg (Ev.bind (longestGap_ev r (by omega)) (evSome rfl))
  · rw [if_neg hg]
    exact evNeg hg (evSome rfl)
theorem Long_spec (r : ByteArray) : Ev (fun k => spec_LongestGap.f k r) (lgF r) := by
  unfold spec_LongestGap.f lgF
  refine Ev.bind (rvGood_ev r) ?_
  by_cases hg : goodL r = true
  · have h8 := goodL_len r hg
    rw [if_pos hg]
    exact evPos hg (Ev.bind (rvGap_ev r (by omega)) (evSome rfl))
  · rw [if_neg hg]
    exact evNeg hg (evSome rfl)
theorem LeastL_impl (r : ByteArray) (hr : r.size ≤ 1000000) : Ev (fun k => impl_LeastLeap.f k r) (llF r) := by
  unfold impl_LeastLeap.f
  refine Ev.bind (Long_impl r hr) (evSome ?_)
  unfold lgF llF
  split <;> rfl
theorem LeastL_spec (r : ByteArray) : Ev (fun k => spec_LeastLeap.f k r) (llF r) := by
  unfold spec_LeastLeap.f llF
  refine Ev.bind (rvGood_ev r) ?_
  by_cases hg : goodL r = true
  · have h8 := goodL_len r hg
    rw [if_pos hg]
    exact evPos hg (Ev.bind (rvGap_ev r (by omega)) (evSome rfl))
  · rw [if_neg hg]
    exact evNeg hg (evSome rfl)
def okB (r : ByteArray) (a : Nat) (q : Nat) : Bool := decide (farN r a q = q)
theorem ok_step {r : ByteArray} {a p : Nat} (hp : pl r (p + 1) = true) : okB r a (p + 1) = (List.range' (p + 1 - a) (p + 1 - (p + 1 - a))).any (okB r a) := by
  have hle := farN_le r a p
  by_cases h : p + 1 - farN r a p ≤ a
  · have e1 : farN r a (p + 1) = p + 1 := if_pos ⟨hp, h⟩
    unfold okB
    rw [decide_eq_true e1]
    symm
    rw [List.any_eq_true]
    exact ⟨farN r a p, List.mem_range'_1.2 ⟨by omega, by omega⟩, decide_eq_true (farN_idem r a p)⟩
  · have e1 : farN r a (p + 1) = farN r a p := if_neg (fun hh => h hh.2)
    unfold okB
    rw [decide_eq_false (show ¬ farN r a (p + 1) = p + 1 by rw [e1]; omega)]
    symm
    rw [List.any_eq_false]
    intro x hx
    obtain ⟨h1, h2⟩ := List.mem_range'_1.1 hx
    intro he
    have he' := of_decide_eq_true he
    obtain ⟨d, hd⟩ : ∃ d, p = x + d := ⟨p - x, by omega⟩
    have := farN_mono r a x d
    rw [← hd] at this
    omega
def okL (r : ByteArray) (a p : Nat) : List Bool := (List.range (r.size + 2)).map fun q => decide (q < p) && okB r a q
theorem okL_len (r : ByteArray) (a p : Nat) : (okL r a p).length = r.size + 2 := by simp [okL]
theorem okL_at (r : ByteArray) (a p q : Nat) (h : q < r.size + 2) : (okL r a p).getD q false = (decide (q < p) && okB r a q) := by
  unfold okL
  rw [getD_range_map (fun q => decide (q < p) && okB r a q) (r.size + 2) q false h]
theorem okL_set (r : ByteArray) (a p : Nat) (x : Bool) (h : x = okB r a p) : (okL r a p).set p x = okL r a (p + 1) := by
  apply List.ext_getElem
  · simp [okL]
  · intro i h1 h2
    have h3 : i < r.size + 2 := by rw [okL_len] at h2; exact h2
    rw [List.getElem_set, getElem_getD (okL r a (p + 1)) i false h2, okL_at r a (p + 1) i h3]
    by_cases hip : p = i
    · subst hip
      rw [if_pos rfl, h, decide_eq_true (by omega)]
      rfl
    · rw [if_neg hip, getElem_getD (okL r a p) i false (by rw [okL_len]; exact h3), okL_at r a p i h3]
      congr 1
      exact decide_eq_decide.2 (by omega)
theorem rdBo (l : List Bool) (i : Nat) : rdOf false l (i : Int) = l.getD i false := by unfold rdOf; rw [Int.toNat_natCast]
theorem rr_l1 {r : ByteArray} {a : Nat} (hr : r.size ≤ 100) (p : Nat) (h1 : 1 ≤ p) (hp : p ≤ r.size + 1) (hpl : pl r p = true) (R : List Bool) : ∀ (e b : Nat) (v : Bool), b + e = p → Ev (fun k => spec_rvReach.l0 k r (a : Int) ((r.size + 1 : Nat) : Int) ((okL r a p).set p (v || (List.range' b e).any (okB r a))) ((p + 1 : Nat) : Int)) R → Ev (fun k => spec_rvReach.l1 k r (a : Int) ((r.size + 1 : Nat) : Int) ((okL r a p).set p v) (p : Int) (b : Int)) R := by
  intro e
  have hl := okL_len r a p
  induction e with
  | zero =>
    intro b v hb h
    refine Ev.step (fun k => by rw [spec_rvReach.l1]) ?_
    rw [i1r p (by omega)]
    refine evNeg (by omega) ?_
    simpa using h
  | succ e ih =>
    intro b v hb h
    refine Ev.step (fun k => by rw [spec_rvReach.l1]) ?_
    rw [i1r b (by omega), i1r p (by omega), rdBo, rdBo, getD_set_same _ _ _ _ (by omega), Int.toNat_natCast, List.set_set, List.set_set]
    rw [List.range'_succ, List.any_cons] at h
    refine evPos (by omega) (evBind0 (rvStand_eq r hr p hp) (evPos hpl (evPos (by omega) (evPos (by rw [List.length_set]; omega) ?_))))
    cases v with
    | true =>
      refine evPos rfl (ih (b + 1) true (by omega) ?_)
      simpa using h
    | false =>
      refine evNeg (by simp) (evPos (by omega) (evPos (by rw [List.length_set]; omega) ?_))
      have e1 : ((okL r a p).set p false).getD b false = okB r a b := by
        rw [List.getD_eq_getElem?_getD, List.getElem?_set_ne (by omega), ← List.getD_eq_getElem?_getD, okL_at r a p b (by omega), decide_eq_true (by omega)]
        rfl
      rw [e1]
      refine ih (b + 1) (okB r a b) (by omega) ?_
      simpa using h
theorem rr_l0 {r : ByteArray} {a : Nat} (hr : r.size ≤ 100) (ha : a ≤ 1000) : ∀ (e p : Nat), 1 ≤ p → p + e = r.size + 2 → Ev (fun k => spec_rvReach.l0 k r (a : Int) ((r.size + 1 : Nat) : Int) (okL r a p) (p : Int)) (okL r a (r.size + 2)) := by
  intro e
  induction e with
  | zero =>
    intro p h1 hp
    refine Ev.step (fun k => by rw [spec_rvReach.l0]) (evNeg (by omega) (evSome ?_))
    rw [show p = r.size + 2 by omega]
  | succ e ih =>
    intro p h1 hp
    refine Ev.step (fun k => by rw [spec_rvReach.l0]) ?_
    have hl := okL_len r a p
    have hm : spec_l1Most.f 0 (wrap64 ((p : Int) - (a : Int))) = some ((p - a : Nat) : Int) := by
      rw [w64 (by omega) (by omega)]
      unfold spec_l1Most.f
      by_cases h : (0 : Int) > (p : Int) - (a : Int)
      · rw [if_pos h]
        congr 1
        omega
      · rw [if_neg h]
        congr 1
        omega
    refine evPos (by omega) (evBind0 hm ?_)
    obtain ⟨q, rfl⟩ : ∃ q, p = q + 1 := ⟨p - 1, by omega⟩
    have ih' := ih (q + 1 + 1) (by omega) (by omega)
    have hf : okL r a (q + 1) = (okL r a (q + 1)).set (q + 1) false := by
      apply List.ext_getElem
      · simp
      · intro i g1 g2
        rw [List.getElem_set]
        split
        · rename_i hi
          subst hi
          rw [getElem_getD (okL r a (q + 1)) (q + 1) false g1, okL_at r a (q + 1) (q + 1) (by omega), decide_eq_false (by omega)]
          rfl
        · rfl
    cases hpl : pl r (q + 1) with
    | true =>
      rw [hf]
      refine rr_l1 hr (q + 1) (by omega) (by omega) hpl _ (q + 1 - (q + 1 - a)) (q + 1 - a) false (by omega) ?_
      rw [Bool.false_or, okL_set r a (q + 1) _ (ok_step hpl).symm]
      exact ih'
    | false =>
      have e0 : okB r a (q + 1) = false := by
        unfold okB
        have hle := farN_le r a q
        have e1 : farN r a (q + 1) = farN r a q := if_neg (fun hh => by rw [hpl] at hh; exact Bool.false_ne_true hh.1)
        rw [e1]
        exact decide_eq_false (by omega)
      have e2 : okL r a (q + 1) = okL r a (q + 1 + 1) := by
        rw [hf]
        exact okL_set r a (q + 1) false e0.symm
      refine Ev.step (fun k => by rw [spec_rvReach.l1]) ?_
      rw [i1r (q + 1) (by omega)]
      refine evSplit (fun _ => ?_) (fun _ => ?_)
      · refine evBind0 (rvStand_eq r hr (q + 1) (by omega)) ?_
        rw [hpl, e2]
        exact evNeg (by simp) ih'
      · rw [e2]
        exact ih'
theorem okL_one (r : ByteArray) (a : Nat) : (List.replicate (r.size + 2) false).set 0 true = okL r a 1 := by
  apply List.ext_getElem
  · simp [okL_len]
  · intro i h1 h2
    have h3 : i < r.size + 2 := by rw [okL_len] at h2; exact h2
    rw [List.getElem_set, getElem_getD (okL r a 1) i false h2, okL_at r a 1 i h3]
    by_cases h : 0 = i
    · subst h
      rw [if_pos rfl]
      rfl
    · rw [if_neg h, List.getElem_replicate, decide_eq_false (by omega)]
      rfl
theorem rvReach_ev {r : ByteArray} {a : Nat} (hr : r.size ≤ 100) (ha : a ≤ 1000) : Ev (fun k => spec_rvReach.f k r (a : Int)) (okL r a (r.size + 2)) := by
  unfold spec_rvReach.f
  rw [i1r r.size (by omega), i1r (r.size + 1) (by omega), Int.toNat_natCast]
  refine evPos (by omega) (evPos (by omega) (evBind0 rfl (evPos (by simp; omega) ?_)))
  rw [show (0 : Int).toNat = 0 from rfl, okL_one r a]
  exact rr_l0 hr ha (r.size + 1) 1 (by omega) (by omega)
theorem ask_put {r : ByteArray} {a : Int} (h : askB r a = true) (p : Nat) (c : UInt8) (hc : rvSign c = true) : askB (putS r p c) a = true := by
  unfold askB at h ⊢
  rw [Bool.and_eq_true] at h ⊢
  exact ⟨good_put r p c hc h.1, h.2⟩
def nedB (r : ByteArray) (a : Int) (p : Nat) : Bool := !(canB (putS r p 46) a)
def idlB (r : ByteArray) (a : Int) (p : Nat) : Bool := !(decide (farN r a.toNat p = p)) || decide (Lf r a p < 0)
def stsL (r : ByteArray) (h : Nat → Bool) : List Nat := (List.range' 1 r.size).filter fun p => pl r p && h p
def inn (r : ByteArray) (p : Nat) : Bool := decide (1 ≤ p) && decide (p ≤ r.size)
theorem sts_st (r : ByteArray) (h : Nat → Bool) : (stL r).filter (fun p => inn r p && h p) = stsL r h := by
  unfold stsL
  rw [stL_cons]
  have e0 : (inn r 0 && h 0) = false := by unfold inn; simp
  rw [List.filter_cons_of_neg (by rw [e0]; exact Bool.false_ne_true), List.filter_filter, List.range'_concat, List.filter_append]
  have e1 : List.filter (fun q => (inn r q && h q) && pl r q) [1 + 1 * r.size] = [] := by
    rw [List.filter_cons_of_neg (by unfold inn; rw [decide_eq_false (show ¬ 1 + 1 * r.size ≤ r.size by omega)]; simp)]
    rfl
  rw [e1, List.append_nil]
  refine List.filter_congr (fun p hp => ?_)
  have := List.mem_range'_1.1 hp
  unfold inn
  rw [decide_eq_true (by omega), decide_eq_true (by omega), Bool.true_and, Bool.true_and, Bool.and_comm]
theorem inn_B (r : ByteArray) (p : Nat) : inB (p : Int) 1 (r.size : Int) = inn r p := by
  unfold inB inn
  congr 1
  · exact decide_eq_decide.2 (by omega)
  · exact decide_eq_decide.2 (by omega)
theorem ned_one {r : ByteArray} {a : Int} (hq : askB r a = true) (p : Nat) (h1 : 1 ≤ p) (h2 : p ≤ r.size) : Ev (fun k => impl_NeededStones_1.f k (p : Int) r a) (nedB r a p) := by
  obtain ⟨_, _, hr, _, _⟩ := askB_facts hq
  unfold impl_NeededStones_1.f
  refine evBind0 (put_eq r (by omega) p h1 h2 46) (Ev.bind (can_impl (ask_put hq p 46 rfl)) (evSome rfl))
theorem ni_l0 {r : ByteArray} {a : Int} (hq : askB r a = true) (L : List Nat) (hL : ∀ x ∈ L, x ≤ r.size + 1) (hlen : L.length ≤ 100) : ∀ (e i : Nat) (acc : List Int), i + e = L.length → acc.length + e ≤ 1000 → Ev (fun k => impl_stones__NeededStones_1.l0 k r acc (ints L) (L.length : Int) (i : Int) r a) (acc ++ ints ((L.drop i).filter (fun p => inn r p && nedB r a p))) := by
  intro e
  induction e with
  | zero =>
    intro i acc hi hl
    refine Ev.step (fun k => by rw [impl_stones__NeededStones_1.l0]) (evNeg (by omega) (evSome ?_))
    rw [List.drop_of_length_le (by omega)]
    show acc = acc ++ []
    rw [List.append_nil]
  | succ e ih =>
    intro i acc hi hl
    refine Ev.step (fun k => by rw [impl_stones__NeededStones_1.l0]) ?_
    rw [rdE, ints_at L i (by omega), ints_len, i1r i (by omega), getD_drop_cons L i 0 (by omega)]
    generalize L.getD i 0 = p
    refine evPos (by omega) (evPos (by omega) (evPos (by omega) (evBind0 (within_eq _ _ _) ?_)))
    rw [inn_B]
    cases hin : inn r p with
    | false =>
      rw [List.filter_cons_of_neg (by rw [hin]; exact Bool.false_ne_true)]
      exact evNeg (by simp) (ih (i + 1) acc (by omega) (by omega))
    | true =>
      have hp : 1 ≤ p ∧ p ≤ r.size := by
        unfold inn at hin
        rw [Bool.and_eq_true, decide_eq_true_eq, decide_eq_true_eq] at hin
        exact hin
      refine evPos rfl (Ev.bind (ned_one hq p hp.1 hp.2) ?_)
      cases hn : nedB r a p with
      | false =>
        rw [List.filter_cons_of_neg (by rw [hin, hn]; exact Bool.false_ne_true)]
        exact evNeg (by simp) (ih (i + 1) acc (by omega) (by omega))
      | true =>
        rw [List.filter_cons_of_pos (by rw [hin, hn]; rfl), ints_cons]
        refine evPos rfl (evPos (by omega) (evEq (ih (i + 1) _ (by omega) (by rw [List.length_append, List.length_singleton]; omega)) ?_))
        rw [List.append_assoc]
        rfl
theorem stN_len {r : ByteArray} (hr : r.size ≤ 40) : (stL r).length ≤ 42 := by
  unfold stL
  have := List.length_filter_le (pl r) (List.range (r.size + 2))
  rw [List.length_range] at this
  omega
def nedF (r : ByteArray) (a : Int) : List Int × Bool := if askB r a = true ∧ canB r a = true then (ints (stsL r (nedB r a)), true) else ([], false)
theorem nd_no {r : ByteArray} {a : Int} (h : ¬ (askB r a = true ∧ canB r a = true)) : nedF r a = ([], false) := if_neg h
theorem nd_yes {r : ByteArray} {a : Int} (h : askB r a = true) (h2 : canB r a = true) : nedF r a = (ints (stsL r (nedB r a)), true) := if_pos ⟨h, h2⟩
theorem Needed_impl (r : ByteArray) (a : Int) (h : r.size ≤ 1000000) : Ev (fun k => impl_NeededStones.f k r a) (nedF r a) := by
  unfold impl_NeededStones.f
  refine evBind0 (ask_impl r a h) ?_
  by_cases hq : askB r a = true
  · obtain ⟨_, h1, h2, h3, h4⟩ := askB_facts hq
    refine evPos hq (Ev.bind (can_impl hq) ?_)
    cases hc : canB r a with
    | false =>
      rw [nd_no (fun hh => by rw [hc] at hh; exact Bool.noConfusion hh.2)]
      exact evNeg (by simp) (evSome rfl)
    | true =>
      rw [nd_yes hq hc]
      have hl := stN_len h2
      refine evPos rfl (Ev.bind (f := fun k v => some (v, true)) ?_ (evSome rfl))
      unfold impl_stones__NeededStones_1.f
      refine Ev.bind (stand_ev r (by omega)) ?_
      rw [ints_len]
      have := ni_l0 hq (stL r) (fun x hx => stL_le r x hx) (by omega) (stL r).length 0 [] (Nat.zero_add _) (by show 0 + (stL r).length ≤ 1000; omega)
      refine evEq this ?_
      rw [List.drop_zero, List.nil_append, sts_st]
  · rw [nd_no (fun hh => hq hh.1)]
    exact evNeg hq (evSome rfl)
theorem ns_l0 {r : ByteArray} {a : Int} (hq : askB r a = true) : ∀ (e p : Nat) (acc : List Int), 1 ≤ p → p + e = r.size + 1 → acc.length + e ≤ 1000 → Ev (fun k => spec_NeededStones.l0 k r a acc (p : Int)) (acc ++ ints ((List.range' p e).filter (fun p => pl r p && nedB r a p)), true) := by
  obtain ⟨_, _, hr, _, _⟩ := askB_facts hq
  intro e
  induction e with
  | zero =>
    intro p acc h1 hp hl
    refine Ev.step (fun k => by rw [spec_NeededStones.l0]) (evNeg (by omega) (evSome ?_))
    show (acc, true) = (acc ++ [], true)
    rw [List.append_nil]
  | succ e ih =>
    intro p acc h1 hp hl
    refine Ev.step (fun k => by rw [spec_NeededStones.l0]) (evPos (by omega) (evBind0 (rvStand_eq r (by omega) p (by omega)) ?_))
    rw [List.range'_succ, i1r p (by omega)]
    cases hpl : pl r p with
    | false =>
      rw [List.filter_cons_of_neg (by rw [hpl]; exact Bool.false_ne_true)]
      exact evNeg (by simp) (ih (p + 1) acc (by omega) (by omega) (by omega))
    | true =>
      refine evPos rfl (evBind0 (without_eq r (by omega) p h1 (by omega)) (Ev.bind (can_spec (ask_put hq p 46 rfl)) ?_))
      cases hc : canB (putS r p 46) a with
      | true =>
        have hn : nedB r a p = false := by unfold nedB; rw [hc]; rfl
        rw [List.filter_cons_of_neg (by rw [hpl, hn]; exact Bool.false_ne_true)]
        exact evPos rfl (ih (p + 1) acc (by omega) (by omega) (by omega))
      | false =>
        have hn : nedB r a p = true := by unfold nedB; rw [hc]; rfl
        rw [List.filter_cons_of_pos (by rw [hpl, hn]; rfl), ints_cons]
        refine evNeg (by simp) (evPos (by omega) (evEq (ih (p + 1) _ (by omega) (by omega) (by rw [List.length_append, List.length_singleton]; omega)) ?_))
        rw [List.append_assoc]
        rfl
theorem Needed_spec (r : ByteArray) (a : Int) : Ev (fun k => spec_NeededStones.f k r a) (nedF r a) := by
  have no : Ev (fun k => spec_NeededStones.j0 k r a true) ([], false) := Ev.step (fun k => by rw [spec_NeededStones.j0]) (evPos rfl (evSome rfl))
  unfold spec_NeededStones.f
  refine Ev.bind (ask_spec r a) ?_
  by_cases hq : askB r a = true
  · obtain ⟨_, h1, h2, h3, h4⟩ := askB_facts hq
    refine evPos hq (Ev.bind (can_spec hq) ?_)
    cases hc : canB r a with
    | false =>
      rw [nd_no (fun hh => by rw [hc] at hh; exact Bool.noConfusion hh.2)]
      exact no
    | true =>
      rw [nd_yes hq hc]
      refine Ev.step (fun k => by rw [spec_NeededStones.j0]) (evNeg (by simp) ?_)
      have := ns_l0 hq r.size 1 [] (Nat.le_refl _) (by omega) (by show 0 + r.size ≤ 1000; omega)
      exact this
  · rw [nd_no (fun hh => hq hh.1)]
    exact evNeg hq no
theorem idl_one {r : ByteArray} {a : Int} (hq : askB r a = true) (p : Nat) (h1 : 1 ≤ p) (h2 : p ≤ r.size) : impl_IdleStones_1.f (p : Int) (lfT r a (r.size + 2)) (lfT (mirS r) a ((mirS r).size + 2)) r = some (idlB r a p) := by
  obtain ⟨_, _, hr, h3, h4⟩ := askB_facts hq
  have hz := mirS_size r
  unfold impl_IdleStones_1.f
  rw [i1r r.size (by omega), show wrap64 (((r.size + 1 : Nat) : Int) - (p : Int)) = ((r.size + 1 - p : Nat) : Int) from (w64 (by omega) (by omega)).trans (by omega), lfT_len, lfT_len, rdLf, rdLf, if_pos (by omega), if_pos (by omega)]
  have hm := mir_far (r := r) (by omega) a.toNat p (by omega)
  rw [show ((a.toNat : Nat) : Int) = a by omega] at hm
  unfold idlB
  by_cases hL : Lf r a p < 0
  · rw [if_pos hL, decide_eq_true hL, Bool.or_true]
  · rw [if_neg hL, if_pos (by omega), if_pos (by omega), decide_eq_false hL, Bool.or_false]
    congr 1
    by_cases hf : farN r a.toNat p = p
    · rw [decide_eq_true hf]
      have := hm.2 hf
      exact decide_eq_false (by omega)
    · rw [decide_eq_false hf]
      have : ¬ 0 ≤ Lf (mirS r) a (r.size + 1 - p) := fun h => hf (hm.1 h)
      exact decide_eq_true (by omega)
theorem ii_l0 {r : ByteArray} {a : Int} (hq : askB r a = true) (L : List Nat) (hlen : L.length ≤ 100) : ∀ (e i : Nat) (acc : List Int), i + e = L.length → acc.length + e ≤ 1000 → Ev (fun k => impl_stones__IdleStones_1.l0 k r acc (ints L) (L.length : Int) (i : Int) (lfT r a (r.size + 2)) (lfT (mirS r) a ((mirS r).size + 2)) r) (acc ++ ints ((L.drop i).filter (fun p => inn r p && idlB r a p))) := by
  intro e
  induction e with
  | zero =>
    intro i acc hi hl
    refine Ev.step (fun k => by rw [impl_stones__IdleStones_1.l0]) (evNeg (by omega) (evSome ?_))
    rw [List.drop_of_length_le (by omega)]
    show acc = acc ++ []
    rw [List.append_nil]
  | succ e ih =>
    intro i acc hi hl
    refine Ev.step (fun k => by rw [impl_stones__IdleStones_1.l0]) ?_
    rw [rdE, ints_at L i (by omega), ints_len, i1r i (by omega), getD_drop_cons L i 0 (by omega)]
    generalize L.getD i 0 = p
    refine evPos (by omega) (evPos (by omega) (evPos (by omega) (evBind0 (within_eq _ _ _) ?_)))
    rw [inn_B]
    cases hin : inn r p with
    | false =>
      rw [List.filter_cons_of_neg (by rw [hin]; exact Bool.false_ne_true)]
      exact evNeg (by simp) (ih (i + 1) acc (by omega) (by omega))
    | true =>
      have hp : 1 ≤ p ∧ p ≤ r.size := by
        unfold inn at hin
        rw [Bool.and_eq_true, decide_eq_true_eq, decide_eq_true_eq] at hin
        exact hin
      refine evPos rfl (evBind0 (idl_one hq p hp.1 hp.2) ?_)
      cases hn : idlB r a p with
      | false =>
        rw [List.filter_cons_of_neg (by rw [hin, hn]; exact Bool.false_ne_true)]
        exact evNeg (by simp) (ih (i + 1) acc (by omega) (by omega))
      | true =>
        rw [List.filter_cons_of_pos (by rw [hin, hn]; rfl), ints_cons]
        refine evPos rfl (evPos (by omega) (evEq (ih (i + 1) _ (by omega) (by rw [List.length_append, List.length_singleton]; omega)) ?_))
        rw [List.append_assoc]
        rfl
def idlF (r : ByteArray) (a : Int) : List Int × Bool := if askB r a = true then (ints (stsL r (idlB r a)), true) else ([], false)
theorem id_no {r : ByteArray} {a : Int} (h : ¬ askB r a = true) : idlF r a = ([], false) := if_neg h
theorem id_yes {r : ByteArray} {a : Int} (h : askB r a = true) : idlF r a = (ints (stsL r (idlB r a)), true) := if_pos h
theorem Idle_impl (r : ByteArray) (a : Int) (h : r.size ≤ 1000000) : Ev (fun k => impl_IdleStones.f k r a) (idlF r a) := by
  unfold impl_IdleStones.f
  refine evBind0 (ask_impl r a h) ?_
  by_cases hq : askB r a = true
  · obtain ⟨_, h1, h2, h3, h4⟩ := askB_facts hq
    have hz := mirS_size r
    have hl := stN_len h2
    rw [id_yes hq]
    refine evPos hq (evBind0 (mirrored_eq r (by omega)) (Ev.bind (leapsLeft_ev (mirS r) (by omega) a (by omega) (by omega)) (Ev.bind (leapsLeft_ev r (by omega) a (by omega) (by omega)) ?_)))
    refine Ev.bind (f := fun k v => some (v, true)) ?_ (evSome rfl)
    unfold impl_stones__IdleStones_1.f
    refine Ev.bind (stand_ev r (by omega)) ?_
    rw [ints_len]
    have := ii_l0 hq (stL r) (by omega) (stL r).length 0 [] (Nat.zero_add _) (by show 0 + (stL r).length ≤ 1000; omega)
    refine evEq this ?_
    rw [List.drop_zero, List.nil_append, sts_st]
  · rw [id_no hq]
    exact evNeg hq (evSome rfl)
theorem is_l0 {r : ByteArray} {a : Int} (hq : askB r a = true) : ∀ (e p : Nat) (acc : List Int), 1 ≤ p → p + e = r.size + 1 → acc.length + e ≤ 1000 → Ev (fun k => spec_IdleStones.l0 k r (okL r a.toNat (r.size + 2)) (lfT r a (r.size + 2)) acc (p : Int)) (acc ++ ints ((List.range' p e).filter (fun p => pl r p && idlB r a p)), true) := by
  obtain ⟨_, _, hr, _, _⟩ := askB_facts hq
  intro e
  induction e with
  | zero =>
    intro p acc h1 hp hl
    refine Ev.step (fun k => by rw [spec_IdleStones.l0]) (evNeg (by omega) (evSome ?_))
    show (acc, true) = (acc ++ [], true)
    rw [List.append_nil]
  | succ e ih =>
    intro p acc h1 hp hl
    refine Ev.step (fun k => by rw [spec_IdleStones.l0]) (evPos (by omega) (evBind0 (rvStand_eq r (by omega) p (by omega)) ?_))
    rw [List.range'_succ, i1r p (by omega)]
    have ih2 := ih (p + 1) acc (by omega) (by omega) (by omega)
    have ih3 := ih (p + 1) (acc ++ [(p : Int)]) (by omega) (by omega) (by rw [List.length_append, List.length_singleton]; omega)
    rw [List.append_assoc] at ih3
    cases hpl : pl r p with
    | false =>
      rw [List.filter_cons_of_neg (by rw [hpl]; exact Bool.false_ne_true)]
      exact evNeg (by simp) ih2
    | true =>
      rw [rdBo, okL_at r a.toNat (r.size + 2) p (by omega), decide_eq_true (show p < r.size + 2 by omega), Bool.true_and, rdLf]
      refine evPos rfl (evPos (by omega) (evPos (by rw [okL_len]; omega) ?_))
      by_cases hf : farN r a.toNat p = p
      · refine evPos (decide_eq_true hf) (evPos (by rw [lfT_len]; omega) ?_)
        by_cases hL : Lf r a p < 0
        · have hn : idlB r a p = true := by unfold idlB; rw [decide_eq_true hL, Bool.or_true]
          rw [List.filter_cons_of_pos (by rw [hpl, hn]; rfl), ints_cons]
          exact evPos hL (evPos (by omega) ih3)
        · have hn : idlB r a p = false := by unfold idlB; rw [decide_eq_false hL, decide_eq_true hf]; rfl
          rw [List.filter_cons_of_neg (by rw [hpl, hn]; exact Bool.false_ne_true)]
          exact evNeg hL ih2
      · have hn : idlB r a p = true := by unfold idlB; rw [decide_eq_false hf]; rfl
        rw [List.filter_cons_of_pos (by rw [hpl, hn]; rfl), ints_cons]
        exact evNeg (by unfold okB; rw [decide_eq_false hf]; exact Bool.false_ne_true) (evPos (by omega) ih3)
theorem Idle_spec (r : ByteArray) (a : Int) : Ev (fun k => spec_IdleStones.f k r a) (idlF r a) := by
  unfold spec_IdleStones.f
  refine Ev.bind (ask_spec r a) ?_
  by_cases hq : askB r a = true
  · obtain ⟨_, h1, h2, h3, h4⟩ := askB_facts hq
    rw [id_yes hq]
    have hR : Ev (fun k => spec_rvReach.f k r a) (okL r a.toNat (r.size + 2)) := by
      have := rvReach_ev (r := r) (a := a.toNat) (by omega) (by omega)
      rw [show ((a.toNat : Nat) : Int) = a by omega] at this
      exact this
    refine evPos hq (Ev.bind hR (Ev.bind (rvLeft_ev r (by omega) a (by omega) (by omega)) ?_))
    exact is_l0 hq r.size 1 [] (Nat.le_refl _) (by omega) (by show 0 + r.size ≤ 1000; omega)
  · rw [id_no hq]
    exact evNeg hq (evSome rfl)
theorem fc_impl {r : ByteArray} {a : Int} (hr : r.size ≤ 1000) : ∀ (m p : Nat) (acc : List Int), p ≤ r.size + 1 → Lf r a p = (m : Int) → acc.length + m ≤ 10000 → Ev (fun k => impl_FirstCrossing.l0 k (lfT r a (r.size + 2)) acc (p : Int)) (acc ++ ints (wayL r a m p), true) := by
  intro m
  have hlen := lfT_len r a (r.size + 2)
  induction m with
  | zero =>
    intro p acc hp h hc
    refine Ev.step (fun k => by rw [impl_FirstCrossing.l0]) ?_
    rw [rdLf, h]
    refine evPos (by omega) (evPos (by omega) (evNeg (by omega) (evSome ?_)))
    simp [wayL, ints]
  | succ m ih =>
    intro p acc hp h hc
    obtain ⟨n1, n2, n3, n4, n5⟩ := nxP_ok hr hp h
    refine Ev.step (fun k => by rw [impl_FirstCrossing.l0]) ?_
    rw [rdLf, i1r p (by omega)]
    refine evPos (by omega) (evPos (by omega) (evPos (by omega) ?_))
    have key : ∀ e q : Nat, q + e = nxP r a m p → p < q → Ev (fun k => impl_FirstCrossing.l1 k (lfT r a (r.size + 2)) acc (p : Int) (q : Int)) (acc ++ ints (wayL r a (m + 1) p), true) := by
      intro e
      induction e with
      | zero =>
        intro q hq hpq
        refine Ev.step (fun k => by rw [impl_FirstCrossing.l1]) ?_
        have hq' : q = nxP r a m p := by omega
        rw [rdLf, rdLf, h, hq', n4, w64 (x := ((m + 1 : Nat) : Int) - 1) (by omega) (by omega)]
        refine evPos (by omega) (evPos (by omega) (evPos (by omega) (evPos (by omega) (evPos (by omega) (evPos (by omega) ?_)))))
        refine evEq (ih (nxP r a m p) (acc ++ [((nxP r a m p : Nat) : Int)]) n2 n4 (by rw [List.length_append, List.length_singleton]; omega)) ?_
        simp [wayL, ints]
      | succ e ihe =>
        intro q hq hpq
        refine Ev.step (fun k => by rw [impl_FirstCrossing.l1]) ?_
        have hne := n5 q hpq (by omega)
        rw [rdLf, rdLf, h, w64 (x := ((m + 1 : Nat) : Int) - 1) (by omega) (by omega), i1r q (by omega)]
        exact evPos (by omega) (evPos (by omega) (evPos (by omega) (evPos (by omega) (evNeg (by omega) (ihe (q + 1) (by omega) (by omega))))))
    exact key (nxP r a m p - (p + 1)) (p + 1) (by omega) (by omega)
def canF (r : ByteArray) (a : Int) : Bool × Bool := if askB r a = true then (canB r a, true) else (false, false)
theorem CanCross_impl (r : ByteArray) (a : Int) (h : r.size ≤ 1000000) : Ev (fun k => impl_CanCross.f k r a) (canF r a) := by
  unfold impl_CanCross.f canF
  refine evBind0 (ask_impl r a h) ?_
  by_cases hq : askB r a = true
  · rw [if_pos hq]
    exact evPos hq (Ev.bind (can_impl hq) (evSome rfl))
  · rw [if_neg hq]
    exact evNeg hq (evSome rfl)
def wayF (r : ByteArray) (a : Int) : List Int × Bool := if askB r a = true ∧ canB r a = true then (0 :: ints (wayL r a (Lf r a 0).toNat 0), true) else ([], false)
theorem First_impl (r : ByteArray) (a : Int) (h : r.size ≤ 1000000) : Ev (fun k => impl_FirstCrossing.f k r a) (wayF r a) := by
  have no : Ev (fun k => impl_FirstCrossing.j0 k r a true) ([], false) := Ev.step (fun k => by rw [impl_FirstCrossing.j0]) (evPos rfl (evSome rfl))
  unfold impl_FirstCrossing.f wayF
  refine evBind0 (ask_impl r a h) ?_
  by_cases hq : askB r a = true
  · obtain ⟨_, h1, h2, h3, h4⟩ := askB_facts hq
    refine evPos hq (Ev.bind (can_impl hq) ?_)
    cases hc : canB r a with
    | false => rw [if_neg (by simp)]; exact no
    | true =>
      rw [if_pos ⟨hq, rfl⟩]
      have h0 : 0 ≤ Lf r a 0 := of_decide_eq_true hc
      have hb := Lf_bound (a := a) (show r.size ≤ 1000 by omega) 0 (by omega)
      refine Ev.step (fun k => by rw [impl_FirstCrossing.j0]) (evNeg (by simp) (Ev.bind (leapsLeft_ev r (by omega) a (by omega) (by omega)) ?_))
      exact fc_impl (by omega) (Lf r a 0).toNat 0 [0] (by omega) (by omega) (by simp; omega)
  · rw [if_neg (fun hh => hq hh.1)]
    exact evNeg hq no
theorem dSame_self (l : List Int) (hl : l.length ≤ 1000000000) : Ev (fun k => laws_dSame.f k l l) true := by
  unfold laws_dSame.f
  refine evPos rfl ?_
  have key : ∀ e i : Nat, i + e = l.length → Ev (fun k => laws_dSame.l0 k l l ((l.length : Nat) : Int) (i : Int)) true := by
    intro e
    induction e with
    | zero =>
      intro i hi
      refine Ev.step (fun k => by rw [laws_dSame.l0]) ?_
      exact evNeg (by omega) (evSome rfl)
    | succ e ih =>
      intro i hi
      refine Ev.step (fun k => by rw [laws_dSame.l0]) ?_
      rw [show wrap64 ((i : Int) + 1) = ((i + 1 : Nat) : Int) from (w64 (by omega) (by omega)).trans (by omega)]
      exact evPos (by omega) (evPos (by omega) (evPos (by omega) (evPos (by omega) (evPos rfl (ih (i + 1) (by omega))))))
  exact key l.length 0 (by omega)
theorem drawI {c : List Int} (hc : bytesOk c) (i s : Int) (l : List Int) (h0 : 0 ≤ i) (hB : i ≤ 1000000000) (hl : 1 ≤ l.length) (hl2 : l.length ≤ 1000) : ∃ v i' s', spec_l1Cur_among.f c i s l = some (v, i', s') ∧ i ≤ i' ∧ i' ≤ i + 2 ∧ v ∈ l := by
  obtain ⟨v, i', s', e, v0, v1, _, h1, h2⟩ := pick_ok hc i s (l.length : Int) h0 hB (by omega)
  unfold spec_l1Cur_among.f
  have v2 := v1 (by omega)
  rw [e]
  simp only [Option.bind_some]
  rw [if_pos v0, if_pos v2]
  refine ⟨_, _, _, rfl, h1, h2, ?_⟩
  unfold rd
  rw [List.getD_eq_getElem?_getD, List.getElem?_eq_getElem (show v.toNat < l.length by omega)]
  exact List.getElem_mem _
theorem drawB {c : List Int} (hc : bytesOk c) (i s n : Int) (h0 : 0 ≤ i) (hB : i ≤ 1000000000) (hn : n ≤ 1000000000) : ∃ v i' s', spec_l1Cur_one.f c i s n = some (v, i', s') ∧ i ≤ i' ∧ i' ≤ i + 2 := by
  obtain ⟨v, i', s', e, v0, v1, _, h1, h2⟩ := pick_ok hc i s n h0 hB hn
  unfold spec_l1Cur_one.f
  rw [e]
  exact ⟨_, _, _, rfl, h1, h2⟩
end Go.Proofs.YtfoflpomfmbjoaaDoor.X
end
