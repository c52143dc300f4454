import Derived.Test.YticmboabiemniaaDoorP2
import Derived.Test.YticmboabiemniaaDoorP5
import Derived.Test.YticmboabiemniaaDoorP6
import Derived.Test.YticmboabiemniaaDoorP7
import Derived.Test.YticmboabiemniaaDoorP8
import Derived.Test.YticmboabiemniaaDoorP9
import Derived.Test.YticmboabiemniaaDoorP10
import Derived.Test.YticmboabiemniaaDoorP11
import Derived.Test.YticmboabiemniaaDoorP12
import Derived.Test.YticmboabiemniaaDoorP13
import Derived.Test.YticmboabiemniaaDoorP14
import Derived.Test.YticmboabiemniaaDoorP15
import Derived.Test.YticmboabiemniaaDoorP16
import Derived.Test.YticmboabiemniaaDoorP17
import Derived.Test.YticmboabiemniaaDoorP19
import Derived.ChangeArms
import Derived.Deep.Slices
import Derived.WideShapes
import Derived.Carry
section
/- Numbers told in decimal: the program and the reference. -/
--! needs LBase strconv_Itoa spec_l1Num
namespace Go.Proofs.YticmboabiemniaaDoor.X
open Go.Proofs.YticmboabiemniaaDoor.Sq Go.RowKit Go.Proofs.YticmboabiemniaaDoorW.PrintWords Go.Proofs.YticmboabiemniaaDoorW.PrintLast Go.Proofs.YticmboabiemniaaDoorW.PrintMore
attribute [local go_sem] max2_int min2_int max_two min_two max_three min_three max_four min_four   -- for this text's walks alone
set_option linter.unusedVariables false
set_option linter.unusedSimpArgs false
/-- The text with these bytes. -/
def bl (l : List UInt8) : ByteArray := ⟨l.toArray⟩
theorem bl_size (l : List UInt8) : (bl l).size = l.length := by
  show l.toArray.size = l.length
  simp
theorem bl_append (a b : List UInt8) : bl a ++ bl b = bl (a ++ b) := by
  apply ByteArray.ext
  rw [ByteArray.data_append]
  show a.toArray ++ b.toArray = (a ++ b).toArray
  simp
theorem bl_data (r : ByteArray) : bl r.data.toList = r := by
  unfold bl
  rw [Array.toArray_toList]
theorem dec_len (n : Nat) : (Lib.decDigits n).length ≤ n + 1 := by
  induction n using Nat.strongRecOn with
  | ind n ih =>
    rw [Lib.decDigits]
    split
    · simp
    · rename_i h
      have := ih (n / 10) (by omega)
      rw [List.length_append]
      simp only [List.length_cons, List.length_nil]
      omega
theorem Itoa_eq (n : Nat) (h : n ≤ 1000000000000000) : strconv_Itoa.f (n : Int) = some (bl (Lib.decDigits n)) := by
  unfold strconv_Itoa.f
  rw [if_pos (by omega), Lib.itoa_nonneg]
  rfl
theorem digit_str : ((List.range 10).all fun d => (strOfNums [(48 + (d : Int)) % 256]).data.toList == [UInt8.ofNat (48 + d)]) = true := by decide +kernel
theorem digit_eq (d : Nat) (h : d < 10) : strOfNums [(48 + (d : Int)) % 256] = bl [UInt8.ofNat (48 + d)] := by
  have h1 := digit_str
  rw [List.all_eq_true] at h1
  have h2 := h1 d (List.mem_range.2 h)
  rw [beq_iff_eq] at h2
  rw [← h2, bl_data]
theorem l1Num_ev (n : Nat) : n ≤ 1000000000000000 → Ev (fun k => spec_l1Num.f k (n : Int)) (bl (Lib.decDigits n)) := by
  induction n using Nat.strongRecOn with
  | ind n ih =>
    intro hn
    refine Ev.step (fun k => by rw [spec_l1Num.f]) ?_
    by_cases c : n < 10
    · refine evPos (by omega) (evSome ?_)
      rw [w64 (by omega) (by omega), digit_eq n c, Lib.decDigits, dif_pos c]
    · refine evNeg (by omega) ?_
      have h10 : Int.tdiv (n : Int) 10 = ((n / 10 : Nat) : Int) := rfl
      have hm10 : Int.tmod (n : Int) 10 = ((n % 10 : Nat) : Int) := rfl
      rw [h10, hm10, w64 (x := ((n / 10 : Nat) : Int)) (by omega) (by omega), w64 (x := 48 + ((n % 10 : Nat) : Int)) (by omega) (by omega)]
      refine Ev.bind (ih (n / 10) (by omega) (by omega)) (evBind0 rfl ?_)
      rw [digit_eq (n % 10) (Nat.mod_lt _ (by omega)), bl_size, bl_size]
      have hl := dec_len (n / 10)
      refine evPos (by simp only [List.length_cons, List.length_nil]; omega) (evSome ?_)
      rw [bl_append]
      conv => rhs; rw [Lib.decDigits, dif_neg c]
end Go.Proofs.YticmboabiemniaaDoor.X
end
section
/- Numbers below 1000 in decimal: three facts, each reckoned once. -/
--! needs LBase LNum impl_number
namespace Go.Proofs.YticmboabiemniaaDoor.X
open Go.Proofs.YticmboabiemniaaDoor.Sq Go.RowKit Go.Proofs.YticmboabiemniaaDoorW.PrintWords Go.Proofs.YticmboabiemniaaDoorW.PrintLast Go.Proofs.YticmboabiemniaaDoorW.PrintMore
attribute [local go_sem] max2_int min2_int max_two min_two max_three min_three max_four min_four   -- for this text's walks alone
set_option linter.unusedVariables false
set_option linter.unusedSimpArgs false
def d3 (n : Nat) : List UInt8 := if n < 10 then [UInt8.ofNat (48 + n)] else if n < 100 then [UInt8.ofNat (48 + n / 10), UInt8.ofNat (48 + n % 10)] else [UInt8.ofNat (48 + n / 10 / 10), UInt8.ofNat (48 + n / 10 % 10), UInt8.ofNat (48 + n % 10)]
theorem dec_d3 (n : Nat) (h : n < 1000) : Lib.decDigits n = d3 n := by
  unfold d3
  split
  · rename_i h1
    exact Lib.decDigits_one h1
  · rename_i h1
    split
    · rename_i h2
      exact Lib.decDigits_two h1 h2
    · rw [Lib.decDigits, dif_neg h1, Lib.decDigits_two (by omega) (by omega)]
      rfl
def isDig (b : UInt8) : Bool := decide (48 ≤ b.toNat) && decide (b.toNat ≤ 57)
theorem d3_all : ((List.range 1000).all fun n => decide (Lib.atoiAll (d3 n) = .ok (n : Int)) && (d3 n).all isDig && decide (d3 n ≠ []) && decide ((d3 n).length ≤ 3)) = true := by decide +kernel
theorem d3_facts (n : Nat) (h : n < 1000) : Lib.atoiAll (d3 n) = .ok (n : Int) ∧ (∀ b ∈ d3 n, isDig b = true) ∧ d3 n ≠ [] ∧ (d3 n).length ≤ 3 := by
  have h1 := d3_all
  rw [List.all_eq_true] at h1
  have h2 := h1 n (List.mem_range.2 h)
  simp only [Bool.and_eq_true, decide_eq_true_eq, List.all_eq_true] at h2
  exact ⟨h2.1.1.1, h2.1.1.2, h2.1.2, h2.2⟩
theorem number_dec (n : Nat) (h : n < 1000) (m : Int) (hm : (n : Int) ≤ m) : nbB (bl (Lib.decDigits n)) m = ((n : Int), true) := by
  obtain ⟨h1, _⟩ := d3_facts n h
  unfold nbB
  show (match Lib.atoiAll (Lib.decDigits n) with
    | .ok v => if (⟨(Lib.itoa v).toArray⟩ : ByteArray) = bl (Lib.decDigits n) ∧ 0 ≤ v ∧ v ≤ m then (v, true) else (0, false)
    | _ => (0, false)) = _
  rw [dec_d3 n h, h1]
  show (if (⟨(Lib.itoa (n : Int)).toArray⟩ : ByteArray) = bl (d3 n) ∧ 0 ≤ (n : Int) ∧ (n : Int) ≤ m then ((n : Int), true) else (0, false)) = _
  rw [if_pos ⟨by rw [Lib.itoa_nonneg, dec_d3 n h]; rfl, by omega, hm⟩]
end Go.Proofs.YticmboabiemniaaDoor.X
end
section
/- The words between signs: what strings.FieldsFunc hands back, at an ASCII text; how many there can be. -/
--! needs LBase LNum strings_FieldsFunc
namespace Go.Proofs.YticmboabiemniaaDoor.X
open Go.Proofs.YticmboabiemniaaDoor.Sq Go.RowKit Go.Proofs.YticmboabiemniaaDoorW.PrintWords Go.Proofs.YticmboabiemniaaDoorW.PrintLast Go.Proofs.YticmboabiemniaaDoorW.PrintMore
attribute [local go_sem] max2_int min2_int max_two min_two max_three min_three max_four min_four   -- for this text's walks alone
set_option linter.unusedVariables false
set_option linter.unusedSimpArgs false
def fieldsL (p : UInt8 → Bool) : List UInt8 → List UInt8 → List (List UInt8)
 | [], cur => if cur = [] then [] else [cur]
 | c :: r, cur => if p c = true then (if cur = [] then fieldsL p r [] else cur :: fieldsL p r []) else fieldsL p r (cur ++ [c])
theorem extract_bl (s : ByteArray) (a b : Nat) : s.extract a b = bl ((s.data.toList.drop a).take (b - a)) := by
  rw [← Lib.extract_data, bl_data]
theorem decode_ascii (s : ByteArray) (pos : Nat) (b : UInt8) (h : s.data.toList.drop pos = b :: s.data.toList.drop (pos + 1)) (hb : b.toNat < 128) : Utf8.decode s pos = (b.toNat, 1) := by
  have hp : pos < s.data.toList.length := by
    rcases Nat.lt_or_ge pos s.data.toList.length with h1 | h1
    · exact h1
    · rw [List.drop_of_length_le h1] at h
      cases h
  have hg : s.get! (pos + 0) = b := by
    rw [Nat.add_zero]
    have h2 : s.data.toList[pos]'hp = b := by
      have := List.drop_eq_getElem_cons hp
      rw [h] at this
      exact (List.cons.inj this).1.symm
    show s.data[pos]! = b
    rw [getElem!_pos s.data pos (by simpa using hp)]
    simpa using h2
  unfold Utf8.decode
  simp only [hg, hb, if_true]
theorem bt_next (r : ByteArray) (i : Nat) (h : i < r.size) : ∃ b : UInt8, bt r (i : Int) = (b.toNat : Int) ∧ r.data.toList.drop i = b :: r.data.toList.drop (i + 1) := by
  refine ⟨r[i], ?_, ?_⟩
  · unfold bt
    rw [dif_pos (by rw [Int.toNat_natCast]; exact h)]
    congr 1
  · rw [List.drop_eq_getElem_cons (by rw [← Lib.size_eq]; exact h)]
    rfl
def curOf (s : ByteArray) (st : Option Nat) (pos : Nat) : List UInt8 := match st with
 | none => []
 | some a => (s.data.toList.drop a).take (pos - a)
theorem curOf_ne (s : ByteArray) (a pos : Nat) (h : a < pos) (hp : pos ≤ s.data.toList.length) : curOf s (some a) pos ≠ [] := fun e => by
  have := congrArg List.length e
  unfold curOf at this
  simp only [List.length_take, List.length_drop, List.length_nil] at this
  omega
theorem curOf_next (s : ByteArray) (a pos : Nat) (h : a ≤ pos) (b : UInt8) (hd : s.data.toList.drop pos = b :: s.data.toList.drop (pos + 1)) : curOf s (some a) (pos + 1) = (s.data.toList.drop a).take (pos - a) ++ [b] := by
  unfold curOf
  dsimp only
  have h1 : (s.data.toList.drop a).drop (pos - a) = b :: s.data.toList.drop (pos + 1) := by rw [List.drop_drop, show a + (pos - a) = pos by omega, hd]
  have h2 := List.take_append_drop (pos - a) (s.data.toList.drop a)
  have hl : pos < s.data.toList.length := by
    rcases Nat.lt_or_ge pos s.data.toList.length with h1 | h1
    · exact h1
    · rw [List.drop_of_length_le h1] at hd
      cases hd
  rw [show pos + 1 - a = (pos - a) + 1 by omega]
  conv => lhs; rw [← h2, h1]
  rw [List.take_append, List.take_of_length_le (by rw [List.length_take]; omega), List.length_take, List.length_drop, Nat.min_eq_left (by omega), show pos - a + 1 - (pos - a) = 1 by omega]
  rfl
theorem spans_fields (q : Nat → Bool) (s : ByteArray) (hs : ∀ b ∈ s.data.toList, b.toNat < 128) : ∀ (f pos : Nat) (st : Option Nat) (acc : List (Nat × Nat)), s.size ≤ pos + f → pos ≤ s.size → (∀ a, st = some a → a < pos) →
    (Lib.closeSpans s (Lib.spansFromP q s f pos st acc)).map (fun x => s.extract x.1 x.2) = acc.map (fun x => s.extract x.1 x.2) ++ (fieldsL (fun b => q b.toNat) (s.data.toList.drop pos) (curOf s st pos)).map bl := by
  intro f
  induction f with
  | zero =>
    intro pos st acc h1 h2 h3
    have hp : pos = s.size := by omega
    rw [Lib.spansFromP_end _ _ _ _ _ _ (by omega), List.drop_of_length_le (by rw [← Lib.size_eq]; omega)]
    cases st with
    | none => simp [Lib.closeSpans, fieldsL, curOf]
    | some a =>
      have hne := curOf_ne s a pos (h3 a rfl) (by rw [← Lib.size_eq]; omega)
      unfold fieldsL
      rw [if_neg hne]
      simp only [Lib.closeSpans, List.map_append, List.map_cons, List.map_nil]
      rw [extract_bl, hp]
      rfl
  | succ f ih =>
    intro pos st acc h1 h2 h3
    unfold Lib.spansFromP
    by_cases hp : pos < s.size
    · rw [if_pos hp]
      have hl : pos < s.data.toList.length := by rw [← Lib.size_eq]; exact hp
      have hd := List.drop_eq_getElem_cons hl
      obtain ⟨b, hb⟩ : ∃ b, s.data.toList[pos]'hl = b := ⟨_, rfl⟩
      rw [hb] at hd
      have hb8 := hs b (by rw [← hb]; exact List.getElem_mem hl)
      rw [decode_ascii s pos b hd hb8, hd]
      unfold fieldsL
      try dsimp only
      by_cases hq : q b.toNat = true
      · rw [if_pos hq, if_pos hq]
        cases st with
        | none =>
          rw [ih (pos + 1) none acc (by omega) (by omega) (fun a e => by cases e)]
          rw [if_pos (show curOf s none pos = [] from rfl)]
          rfl
        | some a =>
          have hne := curOf_ne s a pos (h3 a rfl) (by omega)
          rw [ih (pos + 1) none _ (by omega) (by omega) (fun a e => by cases e), if_neg hne, List.map_append, List.append_assoc, List.map_cons, List.map_cons, List.map_nil, extract_bl]
          rfl
      · rw [if_neg hq, if_neg hq]
        cases st with
        | none =>
          rw [ih (pos + 1) (some pos) acc (by omega) (by omega) (fun a e => by cases e; omega), curOf_next s pos pos (Nat.le_refl _) b hd, Nat.sub_self, List.take_zero]
          rfl
        | some a =>
          have := h3 a rfl
          rw [ih (pos + 1) (some a) acc (by omega) (by omega) (fun a' e => by cases e; omega), curOf_next s a pos (by omega) b hd]
          rfl
    · rw [if_neg hp, List.drop_of_length_le (by rw [← Lib.size_eq]; omega)]
      have hp : pos = s.size := by omega
      cases st with
      | none => simp [Lib.closeSpans, fieldsL, curOf]
      | some a =>
        have hne := curOf_ne s a pos (h3 a rfl) (by rw [← Lib.size_eq]; omega)
        unfold fieldsL
        rw [if_neg hne]
        simp only [Lib.closeSpans, List.map_append, List.map_cons, List.map_nil]
        rw [extract_bl, hp]
        rfl
theorem fields_ascii (q : Nat → Bool) (l : List UInt8) (hl : ∀ b ∈ l, b.toNat < 128) : Lib.goFieldsP q (bl l) = (fieldsL (fun b => q b.toNat) l []).map bl := by
  have h := spans_fields q (bl l) hl (bl l).size 0 none [] (by omega) (by omega) (fun a e => by cases e)
  exact h
theorem spans_count (q : Nat → Bool) (s : ByteArray) : ∀ (f pos : Nat) (st : Option Nat) (acc : List (Nat × Nat)), (Lib.spansFromP q s f pos st acc).1.length ≤ acc.length + f := by
  intro f
  induction f with
  | zero => intro pos st acc; exact Nat.le_refl _
  | succ f ih =>
    intro pos st acc
    unfold Lib.spansFromP
    split
    · split
      · cases st with
        | none => exact Nat.le_trans (ih _ _ _) (by omega)
        | some a => exact Nat.le_trans (ih _ _ _) (by rw [List.length_append]; simp only [List.length_cons, List.length_nil]; omega)
      · cases st with
        | none => exact Nat.le_trans (ih _ _ _) (by omega)
        | some a => exact Nat.le_trans (ih _ _ _) (by omega)
    · show acc.length ≤ _
      omega
theorem fields_count (q : Nat → Bool) (s : ByteArray) : (Lib.goFieldsP q s).length ≤ s.size + 1 := by
  unfold Lib.goFieldsP Lib.spansOfP
  rw [List.length_map]
  have h := spans_count q s s.size 0 none []
  unfold Lib.closeSpans
  split
  · rw [List.length_append]
    simp only [List.length_cons, List.length_nil] at h ⊢
    omega
  · simp only [List.length_nil] at h
    omega
theorem fields_size (q : Nat → Bool) (s : ByteArray) : ∀ w ∈ Lib.goFieldsP q s, w.size ≤ s.size := by
  intro w hw
  unfold Lib.goFieldsP at hw
  obtain ⟨x, _, rfl⟩ := List.mem_map.1 hw
  rw [extract_bl, bl_size, List.length_take, List.length_drop, ← Lib.size_eq]
  omega
/-- A word that holds no sign. -/
theorem fields_word (p : UInt8 → Bool) : ∀ (w cur r : List UInt8), (∀ b ∈ w, p b = false) → fieldsL p (w ++ r) cur = fieldsL p r (cur ++ w)
 | [], cur, r, _ => by rw [List.nil_append, List.append_nil]
 | c :: w, cur, r, h => by
  rw [List.cons_append, fieldsL, if_neg (by rw [h c (List.mem_cons_self ..)]; decide), fields_word p w (cur ++ [c]) r (fun b hb => h b (List.mem_cons_of_mem _ hb)), List.append_assoc]
  rfl
theorem fields_sep (p : UInt8 → Bool) (w : List UInt8) (c : UInt8) (r : List UInt8) (hw : w ≠ []) (h : ∀ b ∈ w, p b = false) (hc : p c = true) : fieldsL p (w ++ c :: r) [] = w :: fieldsL p r [] := by
  rw [fields_word p w [] (c :: r) h, List.nil_append, fieldsL, if_pos hc, if_neg hw]
theorem fields_last (p : UInt8 → Bool) (w : List UInt8) (hw : w ≠ []) (h : ∀ b ∈ w, p b = false) : fieldsL p w [] = [w] := by
  have := fields_word p w [] [] h
  rw [List.append_nil, List.nil_append] at this
  rw [this, fieldsL, if_neg hw]
end Go.Proofs.YticmboabiemniaaDoor.X
end
section
/- Numbers told with a text between them. -/
--! needs LBase LNum strings_Join impl_joined
namespace Go.Proofs.YticmboabiemniaaDoor.X
open Go.Proofs.YticmboabiemniaaDoor.Sq Go.RowKit Go.Proofs.YticmboabiemniaaDoorW.PrintWords Go.Proofs.YticmboabiemniaaDoorW.PrintLast Go.Proofs.YticmboabiemniaaDoorW.PrintMore
attribute [local go_sem] max2_int min2_int max_two min_two max_three min_three max_four min_four   -- for this text's walks alone
set_option linter.unusedVariables false
set_option linter.unusedSimpArgs false
def decs (l : List Nat) : List (List UInt8) := l.map Lib.decDigits
theorem Join_eq (l : List (List UInt8)) (sep : ByteArray) (h1 : l.length ≤ 1000000) (h2 : (Lib.join l sep.data.toList).length ≤ 100000000000000) : strings_Join.f (l.map bl) sep = some (bl (Lib.join l sep.data.toList)) := by
  have hm : ((l.map bl).map (fun x : ByteArray => x.data.toList)) = l := by
    rw [List.map_map]
    exact (List.map_congr_left (fun x _ => rfl)).trans (List.map_id _)
  unfold strings_Join.f
  rw [hm, if_pos ⟨by rw [List.length_map]; omega, by omega⟩]
  rfl
theorem join_len (l : List (List UInt8)) (sep : List UInt8) (b : Nat) (hb : ∀ x ∈ l, x.length ≤ b) : (Lib.join l sep).length ≤ l.length * (b + sep.length) := by
  cases l with
  | nil => simp [Lib.join_nil]
  | cons x r =>
    rw [Lib.join_cons, List.length_append, List.length_cons, Nat.add_mul, Nat.one_mul]
    have h1 := hb x (List.mem_cons_self ..)
    have h2 : ∀ r : List (List UInt8), (∀ x ∈ r, x.length ≤ b) → (Lib.joinTail sep r).length ≤ r.length * (b + sep.length) := by
      intro r
      induction r with
      | nil => intro _; simp [Lib.joinTail]
      | cons y r ih =>
        intro hr
        have h3 := ih (fun z hz => hr z (List.mem_cons_of_mem _ hz))
        have h4 := hr y (List.mem_cons_self ..)
        unfold Lib.joinTail at h3 ⊢
        rw [List.map_cons, List.flatten_cons, List.length_append, List.length_append, List.length_cons, Nat.add_mul, Nat.one_mul]
        omega
    have h3 := h2 r (fun z hz => hb z (List.mem_cons_of_mem _ hz))
    omega
theorem joined_l0 (l : List Nat) (hl : l.length ≤ 1000) (hb : ∀ x ∈ l, x ≤ 10000000) (sep : ByteArray) (hs : sep.size ≤ 1000) (L : List Int) (hL : L = l.map (fun (x : Nat) => (x : Int))) (e : Nat) : ∀ i : Nat, i + e = l.length → Ev (fun k => impl_joined.l0 k sep (((decs l).take i).map bl) L (L.length : Int) (i : Int)) (bl (Lib.join (decs l) sep.data.toList)) := by
  have hLl : L.length = l.length := by rw [hL, List.length_map]
  have hdl : (decs l).length = l.length := by unfold decs; rw [List.length_map]
  have hjl : (Lib.join (decs l) sep.data.toList).length ≤ 100000000000000 := by
    have h1 := join_len (decs l) sep.data.toList 10000001 (fun x hx => by
      unfold decs at hx
      obtain ⟨y, hy, rfl⟩ := List.mem_map.1 hx
      have := dec_len y
      have := hb y hy
      omega)
    rw [hdl] at h1
    have h2 : sep.data.toList.length = sep.size := data_length sep
    have h3 : l.length * (10000001 + sep.data.toList.length) ≤ 1000 * (10000001 + 1000) := Nat.mul_le_mul hl (by omega)
    omega
  induction e with
  | zero =>
    intro i hi
    refine Ev.step (fun k => by rw [impl_joined.l0]) ?_
    refine evNeg (by omega) ?_
    rw [List.take_of_length_le (by omega)]
    exact evBind0 (Join_eq (decs l) sep (by omega) hjl) (evSome rfl)
  | succ e ih =>
    intro i hi
    refine Ev.step (fun k => by rw [impl_joined.l0]) ?_
    have hr : rd L (i : Int) = ((l.getD i 0 : Nat) : Int) := by
      unfold rd
      rw [Int.toNat_natCast, hL]
      exact getD_map' l (fun (x : Nat) => (x : Int)) i 0 0 (by omega)
    have hx : l.getD i 0 ≤ 10000000 := by
      rw [← getElem_getD l i 0 (by omega)]
      exact hb _ (List.getElem_mem _)
    have ht : ((decs l).take (i + 1)).map bl = ((decs l).take i).map bl ++ [bl (Lib.decDigits (l.getD i 0))] := by
      rw [List.take_succ_eq_append_getElem (by omega), List.map_append, List.map_cons, List.map_nil]
      congr 2
      unfold decs
      rw [List.getElem_map, getElem_getD l i 0 (by omega)]
    rw [hr, show wrap64 ((i : Int) + 1) = ((i + 1 : Nat) : Int) from (w64 (by omega) (by omega)).trans (by omega)]
    refine evPos (by omega) (evPos (by omega) (evPos (by omega) (evBind0 (Itoa_eq _ (by omega)) (evPos (by rw [List.length_map, List.length_take]; omega) ?_))))
    rw [← ht]
    exact ih (i + 1) (by omega)
theorem joined_ev (l : List Nat) (hl : l.length ≤ 1000) (hb : ∀ x ∈ l, x ≤ 10000000) (sep : ByteArray) (hs : sep.size ≤ 1000) (L : List Int) (hL : L = l.map (fun (x : Nat) => (x : Int))) : Ev (fun k => impl_joined.f k L sep) (bl (Lib.join (decs l) sep.data.toList)) := by
  unfold impl_joined.f
  have h := joined_l0 l hl hb sep hs L hL l.length 0 (Nat.zero_add _)
  simpa using h
end Go.Proofs.YticmboabiemniaaDoor.X
end
section
/- impl.numbers, as a plain function of the words. -/
--! needs LBase LNum LFields LDec3 LJoined impl_numbers
namespace Go.Proofs.YticmboabiemniaaDoor.X
open Go.Proofs.YticmboabiemniaaDoor.Sq Go.RowKit Go.Proofs.YticmboabiemniaaDoorW.PrintWords Go.Proofs.YticmboabiemniaaDoorW.PrintLast Go.Proofs.YticmboabiemniaaDoorW.PrintMore
attribute [local go_sem] max2_int min2_int max_two min_two max_three min_three max_four min_four   -- for this text's walks alone
set_option linter.unusedVariables false
set_option linter.unusedSimpArgs false
def numsF (m : Int) : List ByteArray → List Int → List Int × Bool
 | [], out => (out, true)
 | w :: r, out => if (nbB w m).2 = true then numsF m r (out ++ [(nbB w m).1]) else ([], false)
theorem numsF_len (m : Int) : ∀ (ws : List ByteArray) (out : List Int), (numsF m ws out).1.length ≤ out.length + ws.length
 | [], out => Nat.le_refl _
 | w :: r, out => by
  unfold numsF
  split
  · have := numsF_len m r (out ++ [(nbB w m).1])
    rw [List.length_append] at this
    simp only [List.length_cons, List.length_nil] at this ⊢
    omega
  · simp
theorem number_some (w : ByteArray) (m : Int) (h : w.size ≤ 281474976710656) : impl_number.f w m = some (nbB w m) := by
  unfold impl_number.f
  rw [if_pos h]
theorem numbers_l0 (m : Int) (ws : List ByteArray) (hw : ∀ w ∈ ws, w.size ≤ 100000000) (hl : ws.length ≤ 100000000) (e : Nat) : ∀ (i : Nat) (out : List Int), i + e = ws.length → out.length ≤ i →
    Ev (fun k => impl_numbers.l0 k m out ws (ws.length : Int) (i : Int)) (numsF m (ws.drop i) out) := by
  induction e with
  | zero =>
    intro i out hi ho
    refine Ev.step (fun k => by rw [impl_numbers.l0]) ?_
    refine evNeg (by omega) (evSome ?_)
    rw [List.drop_of_length_le (by omega), numsF]
  | succ e ih =>
    intro i out hi ho
    have hd := getD_drop_cons ws i ByteArray.empty (by omega)
    have hr : rdOf ByteArray.empty ws (i : Int) = ws.getD i ByteArray.empty := by unfold rdOf; rw [Int.toNat_natCast]
    have hm : ws.getD i ByteArray.empty ∈ ws := by rw [← getElem_getD ws i _ (by omega)]; exact List.getElem_mem _
    refine Ev.step (fun k => by rw [impl_numbers.l0]) ?_
    rw [hr, hd, numsF, show wrap64 ((i : Int) + 1) = ((i + 1 : Nat) : Int) from (w64 (by omega) (by omega)).trans (by omega)]
    refine evPos (by omega) (evPos (by omega) (evPos (by omega) (evBind0 (number_some _ m (by have := hw _ hm; omega)) ?_)))
    by_cases hb : (nbB (ws.getD i ByteArray.empty) m).2 = true
    · rw [if_pos hb]
      refine evPos hb (evPos (by omega) (ih (i + 1) _ (by omega) ?_))
      rw [List.length_append]
      simp only [List.length_cons, List.length_nil]
      omega
    · rw [if_neg hb]
      exact evNeg hb (evSome rfl)
theorem numbers_ev (s sep : ByteArray) (m : Int) (hs : s.size ≤ 10000000) (h1 : sep.size ≤ 1000) (h2 : ascB sep = true) : Ev (fun k => impl_numbers.f k s sep m) (numsF m (Lib.goFieldsP (inSigns sep) s) []) := by
  unfold impl_numbers.f
  have hc := fields_count (inSigns sep) s
  refine evBind0 (a := Lib.goFieldsP (inSigns sep) s) (by unfold strings_FieldsFunc.f; rw [if_pos ⟨by omega, h1, h2⟩]) ?_
  have h := numbers_l0 m (Lib.goFieldsP (inSigns sep) s) (fun w hw => by have := fields_size _ s w hw; omega) (by omega) _ 0 [] (Nat.zero_add _) (Nat.le_refl _)
  rw [List.drop_zero] at h
  exact h
theorem numsF_dec (m : Int) : ∀ (ns : List Nat) (out : List Int), (∀ n ∈ ns, n < 1000 ∧ (n : Int) ≤ m) → numsF m ((decs ns).map bl) out = (out ++ ns.map (fun (n : Nat) => (n : Int)), true)
 | [], out, _ => by simp [decs, numsF]
 | n :: r, out, h => by
  obtain ⟨h1, h2⟩ := h n (List.mem_cons_self ..)
  have hn := number_dec n h1 m h2
  show numsF m (bl (Lib.decDigits n) :: (decs r).map bl) out = _
  rw [numsF, hn, if_pos rfl, numsF_dec m r _ (fun x hx => h x (List.mem_cons_of_mem _ hx)), List.append_assoc]
  rfl
end Go.Proofs.YticmboabiemniaaDoor.X
end
section
/- The reference's split of a text at a byte, and its reading of a number. -/
--! needs LBase LNum LFields LDec3 spec_l1Split spec_l1Read
namespace Go.Proofs.YticmboabiemniaaDoor.X
open Go.Proofs.YticmboabiemniaaDoor.Sq Go.RowKit Go.Proofs.YticmboabiemniaaDoorW.PrintWords Go.Proofs.YticmboabiemniaaDoorW.PrintLast Go.Proofs.YticmboabiemniaaDoorW.PrintMore
attribute [local go_sem] max2_int min2_int max_two min_two max_three min_three max_four min_four   -- for this text's walks alone
set_option linter.unusedVariables false
set_option linter.unusedSimpArgs false
def splitL (b : UInt8) : List UInt8 → List UInt8 → List (List UInt8)
 | [], cur => [cur]
 | c :: r, cur => if c = b then cur :: splitL b r [] else splitL b r (cur ++ [c])
theorem splitL_len (b : UInt8) : ∀ (l cur : List UInt8), 1 ≤ (splitL b l cur).length ∧ (splitL b l cur).length ≤ l.length + 1
 | [], cur => ⟨Nat.le_refl _, Nat.le_refl _⟩
 | c :: r, cur => by
  unfold splitL
  split
  · have := splitL_len b r []
    simp only [List.length_cons]
    omega
  · have := splitL_len b r (cur ++ [c])
    simp only [List.length_cons]
    omega
theorem splitL_size (b : UInt8) : ∀ (l cur : List UInt8), ∀ w ∈ splitL b l cur, w.length ≤ cur.length + l.length
 | [], cur, w, h => by
  unfold splitL at h
  simp only [List.mem_singleton] at h
  subst h
  simp
 | c :: r, cur, w, h => by
  unfold splitL at h
  split at h
  · rcases List.mem_cons.1 h with rfl | h
    · omega
    · have := splitL_size b r [] w h
      simp only [List.length_cons, List.length_nil] at this ⊢
      omega
  · have := splitL_size b r (cur ++ [c]) w h
    simp only [List.length_append, List.length_cons, List.length_nil] at this ⊢
    omega
theorem split_word (b : UInt8) : ∀ (w cur r : List UInt8), (∀ c ∈ w, c ≠ b) → splitL b (w ++ r) cur = splitL b r (cur ++ w)
 | [], cur, r, _ => by rw [List.nil_append, List.append_nil]
 | c :: w, cur, r, h => by
  rw [List.cons_append, splitL, if_neg (h c (List.mem_cons_self ..)), split_word b w (cur ++ [c]) r (fun x hx => h x (List.mem_cons_of_mem _ hx)), List.append_assoc]
  rfl
theorem split_sep (b : UInt8) (w r : List UInt8) (h : ∀ c ∈ w, c ≠ b) : splitL b (w ++ b :: r) [] = w :: splitL b r [] := by
  rw [split_word b w [] (b :: r) h, List.nil_append, splitL, if_pos rfl]
theorem split_last (b : UInt8) (w : List UInt8) (h : ∀ c ∈ w, c ≠ b) : splitL b w [] = [w] := by
  have := split_word b w [] [] h
  rw [List.append_nil, List.nil_append] at this
  rw [this, splitL]
theorem l1Split_l0 (s : ByteArray) (hs : s.size ≤ 10000000) (b : UInt8) (e : Nat) : ∀ (i fr : Nat) (acc : List ByteArray), i + e = s.size → fr ≤ i → acc.length ≤ i →
    Ev (fun k => spec_l1Split.l0 k s (b.toNat : Int) acc (fr : Int) (i : Int)) (acc ++ (splitL b (s.data.toList.drop i) ((s.data.toList.drop fr).take (i - fr))).map bl) := by
  induction e with
  | zero =>
    intro i fr acc hi hf ha
    refine Ev.step (fun k => by rw [spec_l1Split.l0]) ?_
    refine evNeg (by omega) (evPos (by omega) (evPos (by omega) (evPos (by omega) (evSome ?_))))
    rw [List.drop_of_length_le (by rw [← Lib.size_eq]; omega), splitL, List.map_cons, List.map_nil, Int.toNat_natCast, extract_bl, show i = s.size by omega]
  | succ e ih =>
    intro i fr acc hi hf ha
    obtain ⟨c, hc, hd⟩ := bt_next s i (by omega)
    have hl : i < s.data.toList.length := by rw [← Lib.size_eq]; omega
    refine Ev.step (fun k => by rw [spec_l1Split.l0]) ?_
    rw [hc]
    refine evPos (by omega) (evPos (by omega) ?_)
    rw [show wrap64 ((i : Int) + 1) = ((i + 1 : Nat) : Int) from (w64 (by omega) (by omega)).trans (by omega), hd, splitL]
    by_cases hcb : c = b
    · subst hcb
      rw [if_pos rfl]
      refine evPos rfl (evPos (by omega) (evPos (by omega) (evPos (by omega) (evPos (by omega) ?_))))
      have h := ih (i + 1) (i + 1) (acc ++ [s.extract (fr : Int).toNat (i : Int).toNat]) (by omega) (by omega) (by rw [List.length_append]; simp only [List.length_cons, List.length_nil]; omega)
      rw [Nat.sub_self, List.take_zero] at h
      refine evEq h ?_
      rw [List.map_cons, List.append_assoc, Int.toNat_natCast, Int.toNat_natCast, extract_bl]
      rfl
    · rw [if_neg hcb]
      refine evNeg (fun h => hcb (UInt8.toNat_inj.1 (by omega))) ?_
      have h := ih (i + 1) fr acc (by omega) (by omega) (by omega)
      have hcn := curOf_next s fr i hf c hd
      unfold curOf at hcn
      dsimp only at hcn
      rw [hcn] at h
      exact h
theorem l1Split_ev (l : List UInt8) (hl : l.length ≤ 10000000) (b : UInt8) : Ev (fun k => spec_l1Split.f k (bl l) (b.toNat : Int)) ((splitL b l []).map bl) := by
  unfold spec_l1Split.f
  have h := l1Split_l0 (bl l) (by rw [bl_size]; exact hl) b (bl l).size 0 0 [] (by omega) (by omega) (by simp)
  have hdr : (bl l).data.toList.drop 0 = l := rfl
  rw [hdr, Nat.sub_self, List.take_zero, List.nil_append] at h
  exact h
def rdG : List UInt8 → Int → Int
 | [], n => n
 | c :: r, n => if (c.toNat : Int) < 48 then -1 else if (c.toNat : Int) > 57 then -1 else rdG r (wrap64 (wrap64 (10 * n) + ((c.toNat : Int) - 48) % 256))
def rdV (l : List UInt8) : Int := if l.length = 0 ∨ 6 < l.length then -1 else if l.head? = some 48 ∧ 1 < l.length then -1 else rdG l 0
theorem l1Read_l0 (s : ByteArray) (hs : s.size ≤ 6) (e : Nat) : ∀ (i : Nat) (n : Int), i + e = s.size → Ev (fun k => spec_l1Read.l0 k s n (i : Int)) (rdG (s.data.toList.drop i) n) := by
  induction e with
  | zero =>
    intro i n hi
    refine Ev.step (fun k => by rw [spec_l1Read.l0]) ?_
    refine evNeg (by omega) (evSome ?_)
    rw [List.drop_of_length_le (by rw [← Lib.size_eq]; omega), rdG]
  | succ e ih =>
    intro i n hi
    obtain ⟨c, hc, hd⟩ := bt_next s i (by omega)
    refine Ev.step (fun k => by rw [spec_l1Read.l0]) ?_
    rw [hc, hd, rdG, show wrap64 ((i : Int) + 1) = ((i + 1 : Nat) : Int) from (w64 (by omega) (by omega)).trans (by omega)]
    refine evPos (by omega) (evPos (by omega) ?_)
    by_cases c1 : (c.toNat : Int) < 48
    · exact evPos c1 (evSome (if_pos c1).symm)
    · refine evNeg c1 ?_
      rw [if_neg c1]
      by_cases c2 : (c.toNat : Int) > 57
      · exact evPos c2 (evSome (if_pos c2).symm)
      · refine evNeg c2 ?_
        rw [if_neg c2]
        exact ih (i + 1) _ (by omega)
theorem l1In_eq' (a b c : Int) : spec_l1In.f a b c = some (decide (b ≤ a ∧ a ≤ c)) := by
  unfold spec_l1In.f
  by_cases h : a ≥ b
  · rw [if_pos h]
    simp [h]
  · rw [if_neg h]
    simp [h]
theorem l1Read_ev (l : List UInt8) : Ev (fun k => spec_l1Read.f k (bl l)) (rdV l) := by
  unfold spec_l1Read.f rdV
  refine evBind0 (l1In_eq' _ _ _) ?_
  rw [bl_size]
  by_cases h : l.length = 0 ∨ 6 < l.length
  · rw [if_pos h]
    refine evNeg (by simp; omega) ?_
    refine Ev.step (fun k => by rw [spec_l1Read.j0]) ?_
    exact evPos rfl (evSome rfl)
  · rw [if_neg h]
    refine evPos (by simp; omega) (evPos (by omega) ?_)
    have h0 := l1Read_l0 (bl l) (by rw [bl_size]; omega) (bl l).size 0 0 (by omega)
    have hdr : (bl l).data.toList.drop 0 = l := rfl
    rw [hdr] at h0
    obtain ⟨c, hc, hd⟩ := bt_next (bl l) 0 (by rw [bl_size]; omega)
    rw [hdr] at hd
    have hc0 : bt (bl l) 0 = (c.toNat : Int) := hc
    rw [hc0]
    have hh : l.head? = some c := by rw [hd]; rfl
    by_cases c48 : c = 48
    · subst c48
      refine evPos (by decide) ?_
      refine Ev.step (fun k => by rw [spec_l1Read.j0]) ?_
      by_cases h1 : 1 < l.length
      · rw [if_pos ⟨hh, h1⟩]
        exact evPos (by simp; omega) (evSome rfl)
      · rw [if_neg (fun k => h1 k.2)]
        exact evNeg (by simp; omega) h0
    · rw [if_neg (fun k => c48 (by rw [hh] at k; exact Option.some.inj k.1))]
      refine evNeg (fun k => c48 (UInt8.toNat_inj.1 (by have : (48 : UInt8).toNat = 48 := rfl; omega))) ?_
      refine Ev.step (fun k => by rw [spec_l1Read.j0]) ?_
      exact evNeg (by simp) h0
theorem rdV_d3 : ((List.range 1000).all fun n => decide (rdV (d3 n) = (n : Int))) = true := by decide +kernel
theorem rdV_dec (n : Nat) (h : n < 1000) : rdV (Lib.decDigits n) = (n : Int) := by
  have h1 := rdV_d3
  rw [List.all_eq_true] at h1
  rw [dec_d3 n h]
  exact of_decide_eq_true (h1 n (List.mem_range.2 h))
end Go.Proofs.YticmboabiemniaaDoor.X
end
section
/- A number within bounds. -/
--! needs impl_within spec_l1In
namespace Go.Proofs.YticmboabiemniaaDoor.X
open Go.Proofs.YticmboabiemniaaDoor.Sq Go.RowKit Go.Proofs.YticmboabiemniaaDoorW.PrintWords Go.Proofs.YticmboabiemniaaDoorW.PrintLast Go.Proofs.YticmboabiemniaaDoorW.PrintMore
attribute [local go_sem] max2_int min2_int max_two min_two max_three min_three max_four min_four   -- for this text's walks alone
set_option linter.unusedVariables false
set_option linter.unusedSimpArgs false
def inB (a l h : Int) : Bool := decide (l ≤ a) && decide (a ≤ h)
theorem within_eq (a l h : Int) : impl_within.f a l h = some (inB a l h) := by
  unfold impl_within.f inB
  by_cases c : l ≤ a <;> simp [c]
theorem l1In_eq (a l h : Int) : spec_l1In.f a l h = some (inB a l h) := by
  unfold spec_l1In.f inB
  by_cases c : l ≤ a
  · rw [if_pos (by omega)]; simp [c]
  · rw [if_neg (by omega)]; simp [c]
end Go.Proofs.YticmboabiemniaaDoor.X
end
section
/- What makes a clue, in plain Lean: the program's and the reference's test come to the same. -/
--! needs LIn impl_IsClue spec_pzClue impl_arePlacesOf
namespace Go.Proofs.YticmboabiemniaaDoor.X
open Go.Proofs.YticmboabiemniaaDoor.Sq Go.RowKit Go.Proofs.YticmboabiemniaaDoorW.PrintWords Go.Proofs.YticmboabiemniaaDoorW.PrintLast Go.Proofs.YticmboabiemniaaDoorW.PrintMore
attribute [local go_sem] max2_int min2_int max_two min_two max_three min_three max_four min_four   -- for this text's walks alone
set_option linter.unusedVariables false
set_option linter.unusedSimpArgs false
def clueB (p k a b : Int) : Bool :=
  if k = 0 ∨ k = 5 then decide (a = 0) && inB b 0 p else if k = 1 then inB a 1 p && inB b 0 1 else if k = 2 then inB a 1 9 && inB b 0 9 else if k = 3 then decide (a = 0) && inB b 1 9 else if k = 4 then inB a 1 9 && inB b 0 256 else false
theorem arePlacesOf_eq (p : Int) : impl_arePlacesOf.f p = some (inB p 1 8) := by
  unfold impl_arePlacesOf.f
  rw [within_eq]; rfl
theorem pzClue_eq (n : Nat) (p k a b : Int) : spec_pzClue.f (n + 1) p k a b = some (clueB p k a b) := by
  unfold spec_pzClue.f clueB
  simp only [spec_pzClue.j0, l1In_eq, Option.bind_some]
  by_cases h0 : k = 0
  · subst h0; by_cases ha : a = 0 <;> simp [ha]
  · by_cases h5 : k = 5
    · subst h5; by_cases ha : a = 0 <;> simp [ha]
    · simp only [h0, h5, if_false, or_false, beq_iff_eq]
      by_cases h1 : k = 1
      · simp only [h1, if_true]; cases inB a 1 p <;> simp
      · by_cases h2 : k = 2
        · subst h2; cases h : inB a 1 9 <;> simp
        · by_cases h3 : k = 3
          · subst h3; by_cases ha : a = 0 <;> simp [ha]
          · by_cases h4 : k = 4
            · subst h4; cases h : inB a 1 9 <;> simp
            · simp [h1, h2, h3, h4]
theorem IsClue_impl (n : Nat) (p k a b : Int) : impl_IsClue.f (n + 1) p k a b = some (inB p 1 8 && clueB p k a b) := by
  unfold impl_IsClue.f clueB
  rw [arePlacesOf_eq]
  cases inB p 1 8
  · simp
  simp only [impl_IsClue.j0, within_eq, Option.bind_some, if_true, Bool.true_and]
  by_cases h0 : k = 0
  · subst h0; by_cases ha : a = 0 <;> simp [ha]
  · by_cases h5 : k = 5
    · subst h5; by_cases ha : a = 0 <;> simp [ha]
    · simp only [h0, h5, if_false, or_false, beq_iff_eq]
      by_cases h1 : k = 1
      · simp only [h1, if_true]; cases inB a 1 p <;> simp
      · by_cases h2 : k = 2
        · subst h2; cases h : inB a 1 9 <;> simp
        · by_cases h3 : k = 3
          · subst h3; by_cases ha : a = 0 <;> simp [ha]
          · by_cases h4 : k = 4
            · subst h4; cases h : inB a 1 9 <;> simp
            · simp [h1, h2, h3, h4]
def okClue (p : Int) (c : S26) : Bool := clueB p c.f0 c.f1 c.f2
end Go.Proofs.YticmboabiemniaaDoor.X
end
section
/- A number of places of hidden rivers. -/
--! needs LIn spec_pzPlaces
namespace Go.Proofs.YticmboabiemniaaDoor.X
open Go.Proofs.YticmboabiemniaaDoor.Sq Go.RowKit Go.Proofs.YticmboabiemniaaDoorW.PrintWords Go.Proofs.YticmboabiemniaaDoorW.PrintLast Go.Proofs.YticmboabiemniaaDoorW.PrintMore
attribute [local go_sem] max2_int min2_int max_two min_two max_three min_three max_four min_four   -- for this text's walks alone
set_option linter.unusedVariables false
set_option linter.unusedSimpArgs false
theorem pzPlaces_eq (p : Int) : spec_pzPlaces.f p = some (inB p 1 8) := by
  unfold spec_pzPlaces.f
  rw [l1In_eq]; rfl
end Go.Proofs.YticmboabiemniaaDoor.X
end
section
/- What makes a puzzle: the program's and the reference's test come to the same. -/
--! needs LBase LPzPlaces LPzClue spec_pzGood impl_IsPuzzle_1 impl_IsPuzzle
namespace Go.Proofs.YticmboabiemniaaDoor.X
open Go.Proofs.YticmboabiemniaaDoor.Sq Go.RowKit Go.Proofs.YticmboabiemniaaDoorW.PrintWords Go.Proofs.YticmboabiemniaaDoorW.PrintLast Go.Proofs.YticmboabiemniaaDoorW.PrintMore
attribute [local go_sem] max2_int min2_int max_two min_two max_three min_three max_four min_four   -- for this text's walks alone
set_option linter.unusedVariables false
set_option linter.unusedSimpArgs false
def goodB (p : Int) (l : List S26) : Bool := inB p 1 8 && decide (l.length ≤ 6) && l.all (okClue p)
theorem pzGood_l0 (p : Int) (l : List S26) (hl : l.length ≤ 6) (d : Nat) : ∀ i : Nat, i + d = l.length → Ev (fun k => spec_pzGood.l0 k l (l.length : Int) (i : Int) p l) ((l.drop i).all (okClue p)) := by
  induction d with
  | zero =>
    intro i hi
    refine Ev.step (fun k => by rw [spec_pzGood.l0]) ?_
    refine evNeg (by omega) (evSome ?_)
    rw [List.drop_of_length_le (by omega)]; rfl
  | succ d ih =>
    intro i hi
    refine Ev.step (fun k => by rw [spec_pzGood.l0]) ?_
    refine evPos (by omega) (evPos (by omega) (evPos (by omega) ?_))
    refine Ev.bind (a := okClue p (rd_T26 l i)) ⟨1, fun k hk => by obtain ⟨m, rfl⟩ : ∃ m, k = m + 1 := ⟨k - 1, by omega⟩; exact pzClue_eq m _ _ _ _⟩ ?_
    have hd : l.drop i = rd_T26 l i :: l.drop (i + 1) := getD_drop_cons l i z26 (by omega)
    cases hb : okClue p (rd_T26 l i) with
    | true =>
      refine evPos rfl ?_
      rw [w64 (by omega) (by omega)]
      refine evEq (ih (i + 1) (by omega)) ?_
      rw [hd, List.all_cons, hb]; rfl
    | false =>
      refine evNeg (by simp) (evSome ?_)
      rw [hd, List.all_cons, hb]; rfl
theorem pzGood_ev (p : Int) (l : List S26) : Ev (fun k => spec_pzGood.f k p l) (goodB p l) := by
  unfold spec_pzGood.f goodB
  refine evBind0 (pzPlaces_eq p) ?_
  cases hp : inB p 1 8 with
  | false =>
    refine evNeg (by simp) ?_
    refine Ev.step (fun k => by rw [spec_pzGood.j0]) ?_
    exact evPos rfl (evSome rfl)
  | true =>
    refine evPos rfl ?_
    refine Ev.step (fun k => by rw [spec_pzGood.j0]) ?_
    by_cases h : l.length ≤ 6
    · refine evNeg (by simp; omega) ?_
      refine evEq (pzGood_l0 p l h l.length 0 (by omega)) ?_
      simp [h]
    · refine evPos (by simp; omega) (evSome ?_)
      simp [h]
theorem IsPuzzle_1_ev (p : Int) (l : List S26) (c : S26) (hp : inB p 1 8 = true) : Ev (fun k => impl_IsPuzzle_1.f k c.f0 c.f1 c.f2 p l) (!okClue p c) := by
  unfold impl_IsPuzzle_1.f
  refine Ev.bind (a := okClue p c) ⟨1, fun k hk => by obtain ⟨m, rfl⟩ : ∃ m, k = m + 1 := ⟨k - 1, by omega⟩; show impl_IsClue.f (m + 1) p c.f0 c.f1 c.f2 = _; rw [IsClue_impl m, hp]; rfl⟩ (evSome rfl)
theorem IndexIsPuzzle_l0 (p : Int) (q l : List S26) (hp : inB p 1 8 = true) (hl : l.length ≤ 6) (d : Nat) : ∀ i : Nat, i + d = l.length →
    ∃ r, Ev (fun k => slices_IndexFunc_Clue__IsPuzzle_1.l0 k l (l.length : Int) (i : Int) p q) r ∧ (decide (r ≥ 0) = !(l.drop i).all (okClue p)) := by
  induction d with
  | zero =>
    intro i hi
    refine ⟨-1, ?_, ?_⟩
    · refine Ev.step (fun k => by rw [slices_IndexFunc_Clue__IsPuzzle_1.l0]) ?_
      exact evNeg (by omega) (evSome rfl)
    · rw [List.drop_of_length_le (by omega)]; rfl
  | succ d ih =>
    intro i hi
    have hd : l.drop i = rd_T26 l i :: l.drop (i + 1) := getD_drop_cons l i z26 (by omega)
    have h1 := IsPuzzle_1_ev p q (rd_T26 l i) hp
    cases hb : okClue p (rd_T26 l i) with
    | true =>
      obtain ⟨r, hr, hr2⟩ := ih (i + 1) (by omega)
      rw [hb] at h1
      refine ⟨r, ?_, ?_⟩
      · refine Ev.step (fun k => by rw [slices_IndexFunc_Clue__IsPuzzle_1.l0]) ?_
        refine evPos (by omega) (evPos (by omega) (evPos (by omega) ?_))
        refine Ev.bind h1 ?_
        refine evNeg (by simp) ?_
        rw [w64 (by omega) (by omega)]
        exact hr
      · rw [hr2, hd, List.all_cons, hb]; rfl
    | false =>
      rw [hb] at h1
      refine ⟨(i : Int), ?_, ?_⟩
      · refine Ev.step (fun k => by rw [slices_IndexFunc_Clue__IsPuzzle_1.l0]) ?_
        refine evPos (by omega) (evPos (by omega) (evPos (by omega) ?_))
        refine Ev.bind h1 ?_
        exact evPos (by simp) (evSome rfl)
      · rw [hd, List.all_cons, hb]
        simp
theorem IsPuzzle_impl (p : Int) (l : List S26) : Ev (fun k => impl_IsPuzzle.f k p l) (goodB p l) := by
  unfold impl_IsPuzzle.f goodB
  refine evBind0 (arePlacesOf_eq p) ?_
  cases hp : inB p 1 8 with
  | false => exact evNeg (by simp) (evSome rfl)
  | true =>
    refine evPos rfl ?_
    by_cases h : l.length ≤ 6
    · refine evPos (by omega) ?_
      obtain ⟨r, hr, hr2⟩ := IndexIsPuzzle_l0 p l l hp h l.length 0 (by omega)
      unfold slices_ContainsFunc_Clue__IsPuzzle_1.f slices_IndexFunc_Clue__IsPuzzle_1.f
      refine Ev.bind (Ev.bind hr (evSome rfl)) (evSome ?_)
      rw [hr2]
      simp [h]
    · refine evNeg (by omega) (evSome ?_)
      simp [h]
theorem goodB_parts (q : Int) (l : List S26) (h : goodB q l = true) : ∃ p : Nat, q = (p : Int) ∧ 1 ≤ p ∧ p ≤ 8 ∧ l.length ≤ 6 ∧ ∀ c ∈ l, okClue (p : Int) c = true := by
  unfold goodB inB at h
  simp only [Bool.and_eq_true, decide_eq_true_eq, List.all_eq_true] at h
  obtain ⟨p, rfl⟩ : ∃ p : Nat, q = (p : Int) := ⟨q.toNat, by omega⟩
  exact ⟨p, rfl, by omega, by omega, h.1.2, h.2⟩
end Go.Proofs.YticmboabiemniaaDoor.X
end
section
/- Texts of puzzles: the program and the reference. -/
--! needs LBase LNum LJoined LPzClue LPzGood spec_pzText impl_puzzleText
namespace Go.Proofs.YticmboabiemniaaDoor.X
open Go.Proofs.YticmboabiemniaaDoor.Sq Go.RowKit Go.Proofs.YticmboabiemniaaDoorW.PrintWords Go.Proofs.YticmboabiemniaaDoorW.PrintLast Go.Proofs.YticmboabiemniaaDoorW.PrintMore
attribute [local go_sem] max2_int min2_int max_two min_two max_three min_three max_four min_four   -- for this text's walks alone
set_option linter.unusedVariables false
set_option linter.unusedSimpArgs false
def ctL (c : S26) : List UInt8 := Lib.join (decs [c.f0.toNat, c.f1.toNat, c.f2.toNat]) [46]
theorem ctL_eq (c : S26) : ctL c = Lib.decDigits c.f0.toNat ++ [46] ++ Lib.decDigits c.f1.toNat ++ [46] ++ Lib.decDigits c.f2.toNat := by
  unfold ctL decs
  rw [List.map_cons, List.map_cons, List.map_cons, List.map_nil, Lib.join_cons]
  unfold Lib.joinTail
  simp
theorem okClue_num (p : Nat) (hp : p ≤ 8) (c : S26) (h : okClue (p : Int) c = true) : (0 ≤ c.f0 ∧ c.f0 ≤ 5) ∧ (0 ≤ c.f1 ∧ c.f1 ≤ 9) ∧ (0 ≤ c.f2 ∧ c.f2 ≤ 256) := by
  unfold okClue clueB inB at h
  split at h
  · simp only [Bool.and_eq_true, decide_eq_true_eq] at h
    omega
  · split at h
    · simp only [Bool.and_eq_true, decide_eq_true_eq] at h
      omega
    · split at h
      · simp only [Bool.and_eq_true, decide_eq_true_eq] at h
        omega
      · split at h
        · simp only [Bool.and_eq_true, decide_eq_true_eq] at h
          omega
        · split at h
          · simp only [Bool.and_eq_true, decide_eq_true_eq] at h
            omega
          · cases h
theorem ctL_len (p : Nat) (hp : p ≤ 8) (c : S26) (h : okClue (p : Int) c = true) : (ctL c).length ≤ 1000 := by
  obtain ⟨h0, h1, h2⟩ := okClue_num p hp c h
  rw [ctL_eq]
  have a0 := dec_len c.f0.toNat
  have a1 := dec_len c.f1.toNat
  have a2 := dec_len c.f2.toNat
  simp only [List.length_append, List.length_cons, List.length_nil]
  omega
theorem rd_ok (p : Nat) (l : List S26) (hok : ∀ c ∈ l, okClue (p : Int) c = true) (i : Nat) (h : i < l.length) : okClue (p : Int) (rd_T26 l (i : Int)) = true := by
  have hr : rd_T26 l (i : Int) = l.getD i z26 := by unfold rd_T26; rw [Int.toNat_natCast]
  rw [hr, ← getElem_getD l i z26 h]
  exact hok _ (List.getElem_mem _)
def sepL (i : Nat) : List UInt8 := if i = 0 then [] else [44]
/-- The clues from one on, each with what stands ahead of it. -/
def restL (l : List S26) : Nat → Nat → List UInt8
 | _, 0 => []
 | i, e + 1 => sepL i ++ ctL (rd_T26 l (i : Int)) ++ restL l (i + 1) e
theorem pzText_l0 (p : Nat) (hp : p ≤ 8) (l : List S26) (hl : l.length ≤ 6) (hok : ∀ c ∈ l, okClue (p : Int) c = true) (e : Nat) : ∀ (i : Nat) (acc : List UInt8), i + e = l.length → acc.length ≤ 100 + 2000 * i →
    Ev (fun k => spec_pzText.l0 k (bl acc) l (l.length : Int) (i : Int)) (bl (acc ++ restL l i e)) := by
  induction e with
  | zero =>
    intro i acc hi ha
    refine Ev.step (fun k => by rw [spec_pzText.l0]) ?_
    exact evNeg (by omega) (evSome (by simp [restL]))
  | succ e ih =>
    intro i acc hi ha
    have hc := rd_ok p l hok i (by omega)
    have hln := ctL_len p hp _ hc
    obtain ⟨⟨h0, h0'⟩, ⟨h1, h1'⟩, ⟨h2, h2'⟩⟩ := okClue_num p hp _ hc
    have hct := ctL_eq (rd_T26 l (i : Int))
    have hE : acc ++ restL l i (e + 1) = (acc ++ sepL i ++ ctL (rd_T26 l (i : Int))) ++ restL l (i + 1) e := by simp [restL]
    rw [hE]
    have hq := ih (i + 1) (acc ++ sepL i ++ ctL (rd_T26 l (i : Int))) (by omega) (by
      have : (sepL i).length ≤ 1 := by unfold sepL; split <;> simp
      simp only [List.length_append]
      omega)
    have s46 : (⟨#[46]⟩ : ByteArray) = bl [46] := rfl
    have s44 : (⟨#[44]⟩ : ByteArray) = bl [44] := rfl
    refine Ev.step (fun k => by rw [spec_pzText.l0]) ?_
    rw [s46, s44, show wrap64 ((i : Int) + 1) = ((i + 1 : Nat) : Int) from (w64 (by omega) (by omega)).trans (by omega)]
    generalize rd_T26 l (i : Int) = c at hc hln h0 h0' h1 h1' h2 h2' hct hq ⊢
    have n0 := l1Num_ev c.f0.toNat (by omega)
    have n1 := l1Num_ev c.f1.toNat (by omega)
    have n2 := l1Num_ev c.f2.toNat (by omega)
    rw [Int.toNat_of_nonneg h0] at n0
    rw [Int.toNat_of_nonneg h1] at n1
    rw [Int.toNat_of_nonneg h2] at n2
    rw [hct] at hln
    simp only [List.length_append, List.length_cons, List.length_nil] at hln
    refine evPos (by omega) (evPos (by omega) (evPos (by omega) (evSplit (fun z => ?_) (fun z => ?_))))
    · refine evPos (by rw [bl_size]; omega) (Ev.bind n0 (evPos (by rw [bl_size]; omega) (Ev.bind n1 ?_)))
      simp only [bl_append]
      refine evPos (by rw [bl_size, bl_size]; simp only [List.length_append, List.length_cons, List.length_nil]; omega) (evPos (by rw [bl_size]; simp only [List.length_append, List.length_cons, List.length_nil]; omega) (Ev.bind n2 ?_))
      simp only [bl_append]
      refine evPos (by rw [bl_size, bl_size]; simp only [List.length_append, List.length_cons, List.length_nil]; omega) (evPos (by rw [bl_size, bl_size]; simp only [List.length_append, List.length_cons, List.length_nil]; omega) ?_)
      rw [hct] at hq
      have hs : sepL i = [44] := by unfold sepL; rw [if_neg (by omega)]
      rw [hs] at hq
      rw [hs, hct]
      exact hq
    · refine Ev.bind n0 (evPos (by rw [bl_size]; omega) (Ev.bind n1 ?_))
      simp only [bl_append]
      refine evPos (by rw [bl_size, bl_size]; simp only [List.length_append, List.length_cons, List.length_nil]; omega) (evPos (by rw [bl_size]; simp only [List.length_append, List.length_cons, List.length_nil]; omega) (Ev.bind n2 ?_))
      simp only [bl_append]
      refine evPos (by rw [bl_size, bl_size]; simp only [List.length_append, List.length_cons, List.length_nil]; omega) (evPos (by rw [bl_size, bl_size]; simp only [List.length_append, List.length_cons, List.length_nil]; omega) ?_)
      rw [hct] at hq
      have hs : sepL i = [] := by unfold sepL; rw [if_pos (by omega)]
      rw [hs, List.append_nil] at hq
      rw [hs, hct, List.append_nil]
      exact hq
theorem restL_join (l : List S26) (e : Nat) : ∀ i : Nat, i + e = l.length → restL l i e = (if i = 0 then Lib.join ((l.drop i).map ctL) [44] else Lib.joinTail [44] ((l.drop i).map ctL)) := by
  induction e with
  | zero =>
    intro i hi
    rw [List.drop_of_length_le (by omega), List.map_nil]
    split
    · exact (Lib.join_nil _).symm
    · rfl
  | succ e ih =>
    intro i hi
    show sepL i ++ ctL (rd_T26 l (i : Int)) ++ restL l (i + 1) e = _
    have hr : rd_T26 l (i : Int) = l.getD i z26 := by unfold rd_T26; rw [Int.toNat_natCast]
    rw [ih (i + 1) (by omega), if_neg (by omega), hr, getD_drop_cons l i z26 (by omega), List.map_cons]
    unfold sepL
    split
    · rw [Lib.join_cons, List.nil_append]
    · unfold Lib.joinTail
      rw [List.map_cons, List.flatten_cons]
def pztL (p : Nat) (l : List S26) : List UInt8 := Lib.decDigits p ++ [58] ++ Lib.join (l.map ctL) [44]
theorem pzText_ev (p : Nat) (hp : p ≤ 8) (l : List S26) (hl : l.length ≤ 6) (hok : ∀ c ∈ l, okClue (p : Int) c = true) : Ev (fun k => spec_pzText.f k (p : Int) l) (bl (pztL p l)) := by
  unfold spec_pzText.f
  have hd := dec_len p
  refine Ev.bind (l1Num_ev p (by omega)) (evPos (by rw [bl_size]; omega) ?_)
  have s58 : (⟨#[58]⟩ : ByteArray) = bl [58] := rfl
  rw [s58, bl_append]
  have h := pzText_l0 p hp l hl hok l.length 0 (Lib.decDigits p ++ [58]) (Nat.zero_add _) (by simp; omega)
  rw [restL_join l l.length 0 (Nat.zero_add _), if_pos rfl, List.drop_zero] at h
  exact h
theorem puzzleText_l0 (p : Nat) (hp : p ≤ 8) (l : List S26) (hl : l.length ≤ 6) (hok : ∀ c ∈ l, okClue (p : Int) c = true) (e : Nat) : ∀ i : Nat, i + e = l.length →
    Ev (fun k => impl_puzzleText.l0 k (((l.map ctL).take i).map bl) l (l.length : Int) (i : Int) (p : Int) l) (bl (pztL p l)) := by
  have hml : (l.map ctL).length = l.length := by rw [List.length_map]
  have hjl : (Lib.join (l.map ctL) [44]).length ≤ 6 * (1000 + 1) := by
    have h1 := join_len (l.map ctL) [44] 1000 (fun x hx => by
      obtain ⟨c, hc, rfl⟩ := List.mem_map.1 hx
      exact ctL_len p hp c (hok c hc))
    rw [hml] at h1
    exact Nat.le_trans h1 (Nat.mul_le_mul hl (Nat.le_refl _))
  have hd := dec_len p
  induction e with
  | zero =>
    intro i hi
    refine Ev.step (fun k => by rw [impl_puzzleText.l0]) ?_
    refine evNeg (by omega) ?_
    rw [List.take_of_length_le (by omega)]
    have hj := Join_eq (l.map ctL) (⟨#[44]⟩ : ByteArray) (by omega) (Nat.le_trans hjl (by decide))
    have s58 : (⟨#[58]⟩ : ByteArray) = bl [58] := rfl
    rw [s58]
    refine evBind0 (Itoa_eq p (by omega)) (evPos (by rw [bl_size]; omega) (evBind0 hj ?_))
    simp only [bl_append]
    refine evPos (by rw [bl_size, bl_size]; simp only [List.length_append, List.length_cons, List.length_nil]; have hjl2 : (Lib.join (l.map ctL) (⟨#[44]⟩ : ByteArray).data.toList).length ≤ 6 * (1000 + 1) := hjl; omega) (evSome rfl)
  | succ e ih =>
    intro i hi
    have hc := rd_ok p l hok i (by omega)
    obtain ⟨⟨h0, h0'⟩, ⟨h1, h1'⟩, ⟨h2, h2'⟩⟩ := okClue_num p hp _ hc
    have hr : rd_T26 l (i : Int) = l.getD i z26 := by unfold rd_T26; rw [Int.toNat_natCast]
    have ht : ((l.map ctL).take (i + 1)).map bl = ((l.map ctL).take i).map bl ++ [bl (ctL (rd_T26 l (i : Int)))] := by
      rw [List.take_succ_eq_append_getElem (by omega), List.map_append, List.map_cons, List.map_nil]
      congr 2
      rw [List.getElem_map, getElem_getD l i z26 (by omega), hr]
    have hj := joined_ev [(rd_T26 l (i : Int)).f0.toNat, (rd_T26 l (i : Int)).f1.toNat, (rd_T26 l (i : Int)).f2.toNat] (by simp) (fun x hx => by
      simp only [List.mem_cons, List.not_mem_nil, or_false] at hx
      omega) (⟨#[46]⟩ : ByteArray) (by decide) ([(rd_T26 l (i : Int)).f0, (rd_T26 l (i : Int)).f1, (rd_T26 l (i : Int)).f2] : List Int) (by
      rw [List.map_cons, List.map_cons, List.map_cons, List.map_nil, Int.toNat_of_nonneg h0, Int.toNat_of_nonneg h1, Int.toNat_of_nonneg h2])
    refine Ev.step (fun k => by rw [impl_puzzleText.l0]) ?_
    rw [show wrap64 ((i : Int) + 1) = ((i + 1 : Nat) : Int) from (w64 (by omega) (by omega)).trans (by omega)]
    refine evPos (by omega) (evPos (by omega) (evPos (by omega) (Ev.bind hj (evPos (by rw [List.length_map, List.length_take]; omega) ?_))))
    have hq := ih (i + 1) (by omega)
    rw [ht] at hq
    exact hq
theorem puzzleText_ev (p : Nat) (hp : p ≤ 8) (l : List S26) (hl : l.length ≤ 6) (hok : ∀ c ∈ l, okClue (p : Int) c = true) : Ev (fun k => impl_puzzleText.f k (p : Int) l) (bl (pztL p l)) := by
  unfold impl_puzzleText.f
  have h := puzzleText_l0 p hp l hl hok l.length 0 (Nat.zero_add _)
  simpa using h
end Go.Proofs.YticmboabiemniaaDoor.X
end
section
/- Puzzles read: the program and the reference come to the same. -/
--! needs LBase LNum LFields LDec3 LNumbers LSplit LJoined LPzText LPzGood LPzClue impl_ParsePuzzle spec_ParsePuzzle
namespace Go.Proofs.YticmboabiemniaaDoor.X
open Go.Proofs.YticmboabiemniaaDoor.Sq Go.RowKit Go.Proofs.YticmboabiemniaaDoorW.PrintWords Go.Proofs.YticmboabiemniaaDoorW.PrintLast Go.Proofs.YticmboabiemniaaDoorW.PrintMore
attribute [local go_sem] max2_int min2_int max_two min_two max_three min_three max_four min_four   -- for this text's walks alone
set_option linter.unusedVariables false
set_option linter.unusedSimpArgs false
def flatC (l : List S26) : List Nat := l.flatMap fun c => [c.f0.toNat, c.f1.toNat, c.f2.toNat]
def ppQ (b : UInt8) : Bool := inSigns ppSep b.toNat
theorem ppQ_all : ((List.range 256).all fun n => !(isDig (UInt8.ofNat n)) || !(ppQ (UInt8.ofNat n))) = true := by decide +kernel
theorem ppQ_dig (b : UInt8) (h : isDig b = true) : ppQ b = false := by
  have h1 := ppQ_all
  rw [List.all_eq_true] at h1
  have h2 := h1 b.toNat (List.mem_range.2 b.toNat_lt)
  rw [UInt8.ofNat_toNat, h] at h2
  simpa using h2
theorem dec_word (n : Nat) (h : n < 1000) : Lib.decDigits n ≠ [] ∧ (∀ b ∈ Lib.decDigits n, isDig b = true) ∧ (Lib.decDigits n).length ≤ 3 := by
  rw [dec_d3 n h]
  obtain ⟨_, h2, h3, h4⟩ := d3_facts n h
  exact ⟨h3, h2, h4⟩
theorem dec_q (n : Nat) (h : n < 1000) : ∀ b ∈ Lib.decDigits n, ppQ b = false := fun b hb => ppQ_dig b ((dec_word n h).2.1 b hb)
theorem joinTail_cons (x : List UInt8) (r : List (List UInt8)) : Lib.joinTail [44] (x :: r) = 44 :: (x ++ Lib.joinTail [44] r) := by
  unfold Lib.joinTail
  rw [List.map_cons, List.flatten_cons]
  rfl
theorem fields_tail (w : List UInt8) (hw : w ≠ []) (h : ∀ b ∈ w, ppQ b = false) (R : List (List UInt8)) : fieldsL ppQ (w ++ Lib.joinTail [44] R) [] = w :: fieldsL ppQ (Lib.joinTail [44] R) [] := by
  cases R with
  | nil =>
    have e : Lib.joinTail [44] [] = [] := rfl
    rw [e, List.append_nil, fields_last ppQ w hw h]
    rfl
  | cons x r =>
    rw [joinTail_cons, fields_sep ppQ w 44 _ hw h (by decide +kernel)]
    congr 1
def okNums (l : List S26) : Prop := ∀ c ∈ l, (0 ≤ c.f0 ∧ c.f0 ≤ 256) ∧ (0 ≤ c.f1 ∧ c.f1 ≤ 256) ∧ (0 ≤ c.f2 ∧ c.f2 ≤ 256)
theorem okNums_of (p : Nat) (hp : p ≤ 8) (l : List S26) (h : ∀ c ∈ l, okClue (p : Int) c = true) : okNums l := fun c hc => by
  have := okClue_num p hp c (h c hc)
  omega
theorem ct_fields (c : S26) (h : okNums [c]) (R : List (List UInt8)) : fieldsL ppQ (ctL c ++ Lib.joinTail [44] R) [] = Lib.decDigits c.f0.toNat :: Lib.decDigits c.f1.toNat :: Lib.decDigits c.f2.toNat :: fieldsL ppQ (Lib.joinTail [44] R) [] := by
  obtain ⟨⟨h0, h0'⟩, ⟨h1, h1'⟩, ⟨h2, h2'⟩⟩ := h c (List.mem_singleton_self _)
  have e : ctL c ++ Lib.joinTail [44] R = Lib.decDigits c.f0.toNat ++ 46 :: (Lib.decDigits c.f1.toNat ++ 46 :: (Lib.decDigits c.f2.toNat ++ Lib.joinTail [44] R)) := by rw [ctL_eq]; simp
  have n0 : c.f0.toNat < 1000 := by omega
  have n1 : c.f1.toNat < 1000 := by omega
  have n2 : c.f2.toNat < 1000 := by omega
  rw [e, fields_sep ppQ _ 46 _ (dec_word _ n0).1 (dec_q _ n0) (by decide +kernel), fields_sep ppQ _ 46 _ (dec_word _ n1).1 (dec_q _ n1) (by decide +kernel), fields_tail _ (dec_word _ n2).1 (dec_q _ n2)]
theorem tail_fields : ∀ (l : List S26), okNums l → fieldsL ppQ (Lib.joinTail [44] (l.map ctL)) [] = decs (flatC l)
 | [], _ => rfl
 | c :: r, h => by
  rw [List.map_cons, joinTail_cons]
  have e : fieldsL ppQ (44 :: (ctL c ++ Lib.joinTail [44] (r.map ctL))) [] = fieldsL ppQ (ctL c ++ Lib.joinTail [44] (r.map ctL)) [] := by
    rw [fieldsL, if_pos (by decide +kernel), if_pos rfl]
  rw [e, ct_fields c (fun x hx => by rw [List.mem_singleton.1 hx]; exact h c (List.mem_cons_self ..)), tail_fields r (fun x hx => h x (List.mem_cons_of_mem _ hx))]
  rfl
theorem join_fields (l : List S26) (h : okNums l) : fieldsL ppQ (Lib.join (l.map ctL) [44]) [] = decs (flatC l) := by
  cases l with
  | nil => rw [List.map_nil, Lib.join_nil]; rfl
  | cons c r =>
    rw [List.map_cons, Lib.join_cons, ct_fields c (fun x hx => by rw [List.mem_singleton.1 hx]; exact h c (List.mem_cons_self ..)), tail_fields r (fun x hx => h x (List.mem_cons_of_mem _ hx))]
    rfl
theorem pzt_fields (p : Nat) (hp : p < 1000) (l : List S26) (h : okNums l) : fieldsL ppQ (pztL p l) [] = decs (p :: flatC l) := by
  unfold pztL
  rw [List.append_assoc, List.singleton_append, fields_sep ppQ _ 58 _ (dec_word p hp).1 (dec_q p hp) (by decide +kernel), join_fields l h]
  rfl
theorem dig_small {b : UInt8} (h : isDig b = true) : 48 ≤ b.toNat ∧ b.toNat ≤ 57 := by
  unfold isDig at h
  simpa using h
theorem ct_byte (c : S26) (h : okNums [c]) : ∀ b ∈ ctL c, isDig b = true ∨ b = 46 := by
  obtain ⟨⟨h0, h0'⟩, ⟨h1, h1'⟩, ⟨h2, h2'⟩⟩ := h c (List.mem_singleton_self _)
  intro b hb
  rw [ctL_eq] at hb
  simp only [List.mem_append, List.mem_singleton] at hb
  rcases hb with (((hb | hb) | hb) | hb) | hb
  · exact .inl ((dec_word _ (by omega)).2.1 b hb)
  · exact .inr hb
  · exact .inl ((dec_word _ (by omega)).2.1 b hb)
  · exact .inr hb
  · exact .inl ((dec_word _ (by omega)).2.1 b hb)
theorem tail_byte (P : UInt8 → Prop) (h44 : P 44) : ∀ (R : List (List UInt8)), (∀ w ∈ R, ∀ b ∈ w, P b) → ∀ b ∈ Lib.joinTail [44] R, P b
 | [], _, b, hb => by simp [Lib.joinTail] at hb
 | x :: r, h, b, hb => by
  rw [joinTail_cons] at hb
  rcases List.mem_cons.1 hb with rfl | hb
  · exact h44
  · rcases List.mem_append.1 hb with hb | hb
    · exact h x (List.mem_cons_self ..) b hb
    · exact tail_byte P h44 r (fun w hw => h w (List.mem_cons_of_mem _ hw)) b hb
theorem join_byte (P : UInt8 → Prop) (h44 : P 44) (R : List (List UInt8)) (h : ∀ w ∈ R, ∀ b ∈ w, P b) : ∀ b ∈ Lib.join R [44], P b := by
  cases R with
  | nil => intro b hb; rw [Lib.join_nil] at hb; cases hb
  | cons x r =>
    intro b hb
    rw [Lib.join_cons] at hb
    rcases List.mem_append.1 hb with hb | hb
    · exact h x (List.mem_cons_self ..) b hb
    · exact tail_byte P h44 r (fun w hw => h w (List.mem_cons_of_mem _ hw)) b hb
theorem okNums_one {l : List S26} (h : okNums l) {c : S26} (hc : c ∈ l) : okNums [c] := fun x hx => by rw [List.mem_singleton.1 hx]; exact h c hc
theorem pzt_ascii (p : Nat) (hp : p < 1000) (l : List S26) (h : okNums l) : ∀ b ∈ pztL p l, b.toNat < 128 := by
  intro b hb
  unfold pztL at hb
  simp only [List.mem_append, List.mem_singleton] at hb
  rcases hb with (hb | rfl) | hb
  · have := dig_small ((dec_word p hp).2.1 b hb)
    omega
  · decide
  · refine join_byte (fun b => b.toNat < 128) (by decide) (l.map ctL) (fun w hw b hb => ?_) b hb
    obtain ⟨c, hc, rfl⟩ := List.mem_map.1 hw
    rcases ct_byte c (okNums_one h hc) b hb with hb | rfl
    · have := dig_small hb
      omega
    · decide
/-! ### The program -/
theorem flat_len (l : List S26) : (flatC l).length = 3 * l.length := by
  induction l with
  | nil => rfl
  | cons c r ih =>
    show (c.f0.toNat :: c.f1.toNat :: c.f2.toNat :: flatC r).length = _
    simp only [List.length_cons]
    omega
theorem flat_at (l : List S26) (h : okNums l) : ∀ (j : Nat) (hj : j < l.length), ((flatC l).getD (3 * j) 0 : Int) = (l[j]'hj).f0 ∧ ((flatC l).getD (3 * j + 1) 0 : Int) = (l[j]'hj).f1 ∧ ((flatC l).getD (3 * j + 2) 0 : Int) = (l[j]'hj).f2 := by
  induction l with
  | nil => intro j hj; exact absurd hj (Nat.not_lt_zero _)
  | cons c r ih =>
    intro j hj
    obtain ⟨⟨h0, _⟩, ⟨h1, _⟩, ⟨h2, _⟩⟩ := h c (List.mem_cons_self ..)
    have e : flatC (c :: r) = c.f0.toNat :: c.f1.toNat :: c.f2.toNat :: flatC r := rfl
    cases j with
    | zero =>
      rw [e]
      exact ⟨Int.toNat_of_nonneg h0, Int.toNat_of_nonneg h1, Int.toNat_of_nonneg h2⟩
    | succ j =>
      have h3 := ih (fun x hx => h x (List.mem_cons_of_mem _ hx)) j (by simpa using hj)
      rw [e, show 3 * (j + 1) = 3 * j + 1 + 1 + 1 by omega, show 3 * j + 1 + 1 + 1 + 1 = (3 * j + 1) + 1 + 1 + 1 by omega, show 3 * j + 1 + 1 + 1 + 2 = (3 * j + 2) + 1 + 1 + 1 by omega]
      simpa only [List.getD_cons_succ, List.getElem_cons_succ] using h3
theorem rdOf_map (ns : List Nat) (i : Nat) : rdOf (0 : Int) (ns.map (fun (n : Nat) => (n : Int))) (i : Int) = ((ns.getD i 0 : Nat) : Int) := by
  unfold rdOf
  rw [Int.toNat_natCast, List.getD_eq_getElem?_getD, List.getD_eq_getElem?_getD, List.getElem?_map]
  cases ns[i]? <;> rfl
theorem ppClues_flat (p : Nat) (l : List S26) (h : okNums l) : ppClues ((p :: flatC l).map (fun (n : Nat) => (n : Int))) = l := by
  unfold ppClues
  have hl : ((p :: flatC l).map (fun (n : Nat) => (n : Int))).length / 3 = l.length := by rw [List.length_map, List.length_cons, flat_len]; omega
  rw [hl]
  apply List.ext_getElem
  · simp
  · intro j h1 h2
    rw [List.getElem_map, List.getElem_range]
    unfold ppClue
    rw [rdOf_map, rdOf_map, rdOf_map, show 1 + 3 * j = 3 * j + 1 by omega, show 3 * j + 1 + 1 = (3 * j + 1) + 1 by omega, show 3 * j + 1 + 2 = (3 * j + 2) + 1 by omega]
    simp only [List.getD_cons_succ]
    obtain ⟨a, b, c⟩ := flat_at l h j h2
    rw [a, b, c]
def impRes (s : ByteArray) (t : List Int) : Int × List S26 × Bool := if goodB (rdOf 0 t 0) (ppClues t) = true ∧ bl (pztL (rdOf 0 t 0).toNat (ppClues t)) = s then (rdOf 0 t 0, ppClues t, true) else (0, [], false)
def impR (s : ByteArray) : Int × List S26 × Bool :=
  if (numsF 256 (Lib.goFieldsP (inSigns ppSep) s) []).2 = true ∧ (numsF 256 (Lib.goFieldsP (inSigns ppSep) s) []).1.length % 3 = 1 then impRes s (numsF 256 (Lib.goFieldsP (inSigns ppSep) s) []).1 else (0, [], false)
theorem parse_impl (s : ByteArray) (hs : s.size ≤ 1048576) : Ev (fun k => impl_ParsePuzzle.f k s) (impR s) := by
  unfold impl_ParsePuzzle.f impR
  have hn := numbers_ev s ppSep 256 (by omega) (by decide) (by decide +kernel)
  have hlen := numsF_len 256 (Lib.goFieldsP (inSigns ppSep) s) []
  have hc := fields_count (inSigns ppSep) s
  refine Ev.bind hn ?_
  generalize numsF 256 (Lib.goFieldsP (inSigns ppSep) s) [] = x at hlen
  simp only [List.length_nil] at hlen
  by_cases h1 : x.2 = true
  · refine evPos h1 ?_
    by_cases h2 : x.1.length % 3 = 1
    · rw [if_pos ⟨h1, h2⟩]
      refine evPos h2 (evPos (by omega) ?_)
      unfold impl_ParsePuzzle.g impRes
      refine Ev.bind (IsPuzzle_impl _ _) ?_
      by_cases hg : goodB (rdOf 0 x.1 0) (ppClues x.1) = true
      · rw [hg]
        refine evPos rfl ?_
        obtain ⟨p, hp, h3, h4, h5, h6⟩ := goodB_parts _ _ hg
        rw [hp, Int.toNat_natCast]
        refine Ev.bind (puzzleText_ev p h4 _ h5 h6) ?_
        by_cases ht : bl (pztL p (ppClues x.1)) = s
        · exact evPos ht (evSome (if_pos ⟨rfl, ht⟩).symm)
        · exact evNeg ht (evSome (if_neg (fun k => ht k.2)).symm)
      · rw [if_neg (fun k => hg k.1)]
        exact evNeg hg (evSome rfl)
    · rw [if_neg (fun k => h2 k.2)]
      exact evNeg h2 (evSome rfl)
  · rw [if_neg (fun k => h1 k.1)]
    exact evNeg h1 (evSome rfl)
theorem impR_true (s : ByteArray) (h : (impR s).2.2 = true) : goodB (impR s).1 (impR s).2.1 = true ∧ bl (pztL (impR s).1.toNat (impR s).2.1) = s := by
  unfold impR at h ⊢
  split at h
  · rename_i h1
    rw [if_pos h1]
    unfold impRes at h ⊢
    split at h
    · rename_i h2
      rw [if_pos h2]
      exact h2
    · cases h
  · cases h
theorem impR_false (s : ByteArray) (h : ¬ (impR s).2.2 = true) : impR s = (0, [], false) := by
  unfold impR at h ⊢
  split
  · rename_i h1
    rw [if_pos h1] at h
    unfold impRes at h ⊢
    split
    · rename_i h2
      rw [if_pos h2] at h
      exact absurd rfl h
    · rfl
  · rfl
theorem impR_text (p : Nat) (l : List S26) (h : goodB (p : Int) l = true) : impR (bl (pztL p l)) = ((p : Int), l, true) := by
  obtain ⟨p', hp', h1, h2, h3, h4⟩ := goodB_parts _ _ h
  obtain rfl : p = p' := by omega
  have hok := okNums_of p h2 l h4
  have hf : Lib.goFieldsP (inSigns ppSep) (bl (pztL p l)) = (decs (p :: flatC l)).map bl := by
    rw [fields_ascii _ _ (pzt_ascii p (by omega) l hok)]
    exact congrArg _ (pzt_fields p (by omega) l hok)
  unfold impR
  have hn := numsF_dec 256 (p :: flatC l) [] (fun n hn => by
    rcases List.mem_cons.1 hn with rfl | hn
    · omega
    · obtain ⟨c, hc, hx⟩ := List.mem_flatMap.1 hn
      obtain ⟨⟨a0, a1⟩, ⟨b0, b1⟩, ⟨c0, c1⟩⟩ := hok c hc
      simp only [List.mem_cons, List.not_mem_nil, or_false] at hx
      omega)
  rw [hf, hn, List.nil_append, if_pos ⟨rfl, by rw [List.length_map, List.length_cons, flat_len]; omega⟩]
  unfold impRes
  have h0 : rdOf (0 : Int) ((p :: flatC l).map (fun (n : Nat) => (n : Int))) 0 = (p : Int) := rfl
  rw [ppClues_flat p l hok, h0, Int.toNat_natCast, if_pos ⟨h, rfl⟩]
/-! ### The reference -/
def pzLp : List (List UInt8) → List S26 → Option (List S26)
 | [], acc => some acc
 | w :: r, acc => match splitL 46 w [] with
   | [a, b, c] => pzLp r (acc ++ [⟨rdV a, rdV b, rdV c⟩])
   | _ => none
def finB (s : ByteArray) (q : Int) (ps : List S26) : Bool := goodB q ps && ((bl (pztL q.toNat ps)).toList == s.toList)
def specE (s : ByteArray) (q : Int) : Option (List S26) → Int × List S26 × Bool
 | none => (0, [], false)
 | some ps => (q, ps, finB s q ps)
def specR (s : List UInt8) : Int × List S26 × Bool := if 100 < s.length then (0, [], false) else match splitL 58 s [] with
 | [x, y] => if y = [] then specE (bl s) (rdV x) (some []) else specE (bl s) (rdV x) (pzLp (splitL 44 y []) [])
 | _ => (0, [], false)
theorem fin_ev (s : ByteArray) (q : Int) (ps : List S26) : Ev (fun k => (spec_pzGood.f k q ps).bind fun t => (if t = true then ((spec_pzText.f k q ps).bind fun u => (some (q, ps, (u.toList == s.toList)))) else (some (q, ps, false)))) (q, ps, finB s q ps) := by
  refine Ev.bind (pzGood_ev q ps) ?_
  unfold finB
  by_cases hg : goodB q ps = true
  · rw [hg]
    refine evPos rfl ?_
    obtain ⟨p, hp, h3, h4, h5, h6⟩ := goodB_parts _ _ hg
    rw [hp, Int.toNat_natCast]
    refine Ev.bind (pzText_ev p h4 ps h5 h6) (evSome ?_)
    rw [Bool.true_and]
  · rw [Bool.eq_false_iff.2 hg]
    exact evNeg (by simp) (evSome rfl)
theorem rd_part (Q : List (List UInt8)) (i : Nat) (h : i < Q.length) : rdOf ByteArray.empty (Q.map bl) (i : Int) = bl (Q[i]'h) := by
  unfold rdOf
  rw [Int.toNat_natCast, List.getD_eq_getElem?_getD, List.getElem?_map, List.getElem?_eq_getElem h]
  rfl
theorem pzParse_l0 (s : ByteArray) (q : Int) (Q : List (List UInt8)) (hl : Q.length ≤ 1000) (hQ : ∀ w ∈ Q, w.length ≤ 1000) (e : Nat) : ∀ (i : Nat) (acc : List S26), i + e = Q.length → acc.length ≤ i →
    Ev (fun k => spec_pzParse.l0 k s (Q.map bl) (Q.length : Int) (i : Int) q acc) (specE s q (pzLp (Q.drop i) acc)) := by
  induction e with
  | zero =>
    intro i acc hi ha
    refine Ev.step (fun k => by rw [spec_pzParse.l0]) ?_
    refine evNeg (by omega) ?_
    rw [List.drop_of_length_le (by omega), pzLp, specE]
    exact fin_ev s q acc
  | succ e ih =>
    intro i acc hi ha
    have hil : i < Q.length := by omega
    refine Ev.step (fun k => by rw [spec_pzParse.l0]) ?_
    rw [rd_part Q i hil, List.drop_eq_getElem_cons hil, pzLp, show wrap64 ((i : Int) + 1) = ((i + 1 : Nat) : Int) from (w64 (by omega) (by omega)).trans (by omega)]
    refine evPos (by omega) (evPos (by omega) (evPos (by rw [List.length_map]; omega) (Ev.bind (l1Split_ev (Q[i]'hil) (by have := hQ _ (List.getElem_mem hil); omega) 46) ?_)))
    generalize splitL 46 (Q[i]'hil) [] = n
    rw [List.length_map]
    match n with
    | [a, b, c] =>
      refine evPos rfl (evPos (by simp) (Ev.bind (l1Read_ev a) (evPos (by simp) (Ev.bind (l1Read_ev b) (evPos (by simp) (Ev.bind (l1Read_ev c) (evPos (by omega) (ih (i + 1) _ (by omega) (by rw [List.length_append]; simp only [List.length_cons, List.length_nil]; omega)))))))))
    | [] => exact evNeg (by simp) (evSome rfl)
    | [a] => exact evNeg (by simp) (evSome rfl)
    | [a, b] => exact evNeg (by simp) (evSome rfl)
    | a :: b :: c :: d :: r => exact evNeg (by simp only [List.length_cons]; omega) (evSome rfl)
theorem parse_spec (s : List UInt8) (hs : s.length ≤ 1048576) : Ev (fun k => spec_pzParse.f k (bl s)) (specR s) := by
  unfold spec_pzParse.f specR
  refine Ev.bind (l1Split_ev s (by omega) 58) ?_
  rw [bl_size]
  by_cases h1 : 100 < s.length
  · rw [if_pos h1]
    refine evPos (by omega) ?_
    refine Ev.step (fun k => by rw [spec_pzParse.j0]) ?_
    exact evPos rfl (evSome rfl)
  · rw [if_neg h1]
    refine evNeg (by omega) ?_
    have hlen := splitL_len 58 s []
    have hsz := splitL_size 58 s []
    generalize splitL 58 s [] = n at hlen hsz
    rw [List.length_map]
    refine Ev.step (fun k => by rw [spec_pzParse.j0]) ?_
    match n with
    | [x, y] =>
      refine evNeg (by simp) (evPos (by simp) (Ev.bind (l1Read_ev x) (evPos (by simp) ?_)))
      have hy : rdOf ByteArray.empty ([x, y].map bl) 1 = bl y := rfl
      rw [hy, bl_size]
      dsimp only
      by_cases he : y = []
      · rw [if_pos he]
        refine evNeg (by rw [he]; simp) ?_
        exact fin_ev (bl s) (rdV x) []
      · rw [if_neg he]
        have hyl : 0 < y.length := List.length_pos_iff.2 he
        have hy2 := hsz y (by simp)
        simp only [List.length_nil] at hy2
        refine evPos (by omega) (Ev.bind (l1Split_ev y (by omega) 44) ?_)
        have h44 := splitL_len 44 y []
        have h := pzParse_l0 (bl s) (rdV x) (splitL 44 y []) (by omega) (fun w hw => by have := splitL_size 44 y [] w hw; simp only [List.length_nil] at this; omega) _ 0 [] (Nat.zero_add _) (Nat.le_refl _)
        rw [List.drop_zero] at h
        rw [List.length_map]
        exact h
    | [] => exact absurd hlen.1 (by simp)
    | [a] => exact evPos rfl (evSome rfl)
    | a :: b :: c :: r => exact evPos (by simp only [List.length_cons]; rw [bne_iff_ne]; omega) (evSome rfl)
theorem toList_inj' {a b : ByteArray} (h : a.toList = b.toList) : a = b := by
  rw [ByteArray.toList_eq, ByteArray.toList_eq] at h
  exact ByteArray.ext (Array.toList_inj.1 h)
theorem specE_true (s : ByteArray) (q : Int) (o : Option (List S26)) (h : (specE s q o).2.2 = true) : goodB (specE s q o).1 (specE s q o).2.1 = true ∧ bl (pztL (specE s q o).1.toNat (specE s q o).2.1) = s := by
  cases o with
  | none => cases h
  | some ps =>
    unfold specE at h ⊢
    unfold finB at h
    simp only [Bool.and_eq_true, beq_iff_eq] at h
    exact ⟨h.1, toList_inj' h.2⟩
theorem specR_true (s : List UInt8) (h : (specR s).2.2 = true) : goodB (specR s).1 (specR s).2.1 = true ∧ bl (pztL (specR s).1.toNat (specR s).2.1) = bl s := by
  unfold specR at h ⊢
  split at h
  · cases h
  · rename_i h1
    rw [if_neg h1]
    split at h
    · rename_i x y hxy
      split at h
      · rename_i he
        rw [if_pos he]
        exact specE_true _ _ _ h
      · rename_i he
        rw [if_neg he]
        exact specE_true _ _ _ h
    · cases h
theorem split_tail : ∀ (R : List (List UInt8)) (w : List UInt8), (∀ c ∈ w, c ≠ 44) → (∀ x ∈ R, ∀ c ∈ x, c ≠ 44) → splitL 44 (w ++ Lib.joinTail [44] R) [] = w :: R
 | [], w, h, _ => by
  have e : Lib.joinTail [44] [] = [] := rfl
  rw [e, List.append_nil, split_last 44 w h]
 | x :: R, w, h, hR => by
  rw [joinTail_cons, split_sep 44 w _ h, split_tail R x (hR x (List.mem_cons_self ..)) (fun y hy => hR y (List.mem_cons_of_mem _ hy))]
theorem ct_ne (c : S26) (h : okNums [c]) (d : UInt8) (hd : d = 44 ∨ d = 58) : ∀ b ∈ ctL c, b ≠ d := fun b hb e => by
  rcases ct_byte c h b hb with h1 | h1
  · have := dig_small h1
    rcases hd with rfl | rfl
    · rw [e] at this
      exact absurd this.1 (by decide)
    · rw [e] at this
      exact absurd this.2 (by decide)
  · rcases hd with rfl | rfl
    · rw [e] at h1
      exact absurd h1 (by decide)
    · rw [e] at h1
      exact absurd h1 (by decide)
theorem dec_ne (n : Nat) (h : n < 1000) (d : UInt8) (hd : isDig d = false) : ∀ b ∈ Lib.decDigits n, b ≠ d := fun b hb e => by
  have := (dec_word n h).2.1 b hb
  rw [e, hd] at this
  cases this
theorem pzLp_ct : ∀ (l acc : List S26), okNums l → pzLp (l.map ctL) acc = some (acc ++ l)
 | [], acc, _ => by rw [List.map_nil, pzLp, List.append_nil]
 | c :: r, acc, h => by
  obtain ⟨⟨h0, h0'⟩, ⟨h1, h1'⟩, ⟨h2, h2'⟩⟩ := h c (List.mem_cons_self ..)
  have e : ctL c = Lib.decDigits c.f0.toNat ++ 46 :: (Lib.decDigits c.f1.toNat ++ 46 :: Lib.decDigits c.f2.toNat) := by rw [ctL_eq]; simp
  have n0 : c.f0.toNat < 1000 := by omega
  have n1 : c.f1.toNat < 1000 := by omega
  have n2 : c.f2.toNat < 1000 := by omega
  have hs : splitL 46 (ctL c) [] = [Lib.decDigits c.f0.toNat, Lib.decDigits c.f1.toNat, Lib.decDigits c.f2.toNat] := by
    rw [e, split_sep 46 _ _ (dec_ne _ n0 46 (by decide)), split_sep 46 _ _ (dec_ne _ n1 46 (by decide)), split_last 46 _ (dec_ne _ n2 46 (by decide))]
  rw [List.map_cons, pzLp, hs]
  dsimp only
  rw [rdV_dec _ n0, rdV_dec _ n1, rdV_dec _ n2, Int.toNat_of_nonneg h0, Int.toNat_of_nonneg h1, Int.toNat_of_nonneg h2, pzLp_ct r _ (fun x hx => h x (List.mem_cons_of_mem _ hx)), List.append_assoc]
  rfl
theorem pzt_len (p : Nat) (hp : p < 1000) (l : List S26) (hl : l.length ≤ 6) (h : okNums l) : (pztL p l).length ≤ 100 := by
  unfold pztL
  have h1 := join_len (l.map ctL) [44] 11 (fun x hx => by
    obtain ⟨c, hc, rfl⟩ := List.mem_map.1 hx
    obtain ⟨⟨h0, h0'⟩, ⟨h1, h1'⟩, ⟨h2, h2'⟩⟩ := h c hc
    rw [ctL_eq]
    have a0 := (dec_word c.f0.toNat (by omega)).2.2
    have a1 := (dec_word c.f1.toNat (by omega)).2.2
    have a2 := (dec_word c.f2.toNat (by omega)).2.2
    simp only [List.length_append, List.length_cons, List.length_nil]
    omega)
  rw [List.length_map] at h1
  simp only [List.length_cons, List.length_nil] at h1
  have h2 := (dec_word p hp).2.2
  simp only [List.length_append, List.length_cons, List.length_nil]
  omega
theorem specR_text (p : Nat) (l : List S26) (h : goodB (p : Int) l = true) : specR (pztL p l) = ((p : Int), l, true) := by
  obtain ⟨p', hp', h1, h2, h3, h4⟩ := goodB_parts _ _ h
  obtain rfl : p = p' := by omega
  have hok := okNums_of p h2 l h4
  have hlen := pzt_len p (by omega) l h3 hok
  unfold specR
  rw [if_neg (by omega)]
  have hj : ∀ b ∈ Lib.join (l.map ctL) [44], b ≠ 58 := join_byte (fun b => b ≠ 58) (by decide) _ (fun w hw => by
    obtain ⟨c, hc, rfl⟩ := List.mem_map.1 hw
    exact ct_ne c (okNums_one hok hc) 58 (.inr rfl))
  have hsp : splitL 58 (pztL p l) [] = [Lib.decDigits p, Lib.join (l.map ctL) [44]] := by
    unfold pztL
    rw [List.append_assoc, List.singleton_append, split_sep 58 _ _ (dec_ne p (by omega) 58 (by decide)), split_last 58 _ hj]
  rw [hsp]
  dsimp only
  rw [rdV_dec p (by omega)]
  have hfin : finB (bl (pztL p l)) (p : Int) l = true := by
    unfold finB
    rw [h, Int.toNat_natCast]
    simp
  cases l with
  | nil =>
    rw [if_pos (by rw [List.map_nil, Lib.join_nil])]
    show ((p : Int), [], finB (bl (pztL p [])) (p : Int) []) = _
    rw [hfin]
  | cons c r =>
    have hjc : Lib.join ((c :: r).map ctL) [44] = ctL c ++ Lib.joinTail [44] (r.map ctL) := by rw [List.map_cons, Lib.join_cons]
    have hne : ¬ Lib.join ((c :: r).map ctL) [44] = [] := fun e => by
      rw [hjc, ctL_eq] at e
      simp at e
    rw [if_neg hne, hjc, split_tail _ _ (ct_ne c (okNums_one hok (List.mem_cons_self ..)) 44 (.inl rfl)) (fun x hx => by
      obtain ⟨d, hd, rfl⟩ := List.mem_map.1 hx
      exact ct_ne d (okNums_one hok (List.mem_cons_of_mem _ hd)) 44 (.inl rfl)), ← List.map_cons, pzLp_ct _ _ hok, List.nil_append]
    show ((p : Int), c :: r, finB (bl (pztL p (c :: r))) (p : Int) (c :: r)) = _
    rw [hfin]
theorem parse_both (s : ByteArray) (hs : s.size ≤ 1048576) : ∃ x : Int × List S26 × Bool, Ev (fun k => spec_ParsePuzzle.f k s) x ∧ Ev (fun k => impl_ParsePuzzle.f k s) x ∧ x.2.1.length ≤ 6 := by
  have hb : bl s.data.toList = s := bl_data s
  have h1 := parse_impl s hs
  have h2 := parse_spec s.data.toList (by rw [← Lib.size_eq]; exact hs)
  rw [hb] at h2
  by_cases h : ∃ (p : Nat) (l : List S26), goodB (p : Int) l = true ∧ bl (pztL p l) = s
  · obtain ⟨p, l, hg, rfl⟩ := h
    rw [impR_text p l hg] at h1
    have e : (bl (pztL p l)).data.toList = pztL p l := rfl
    rw [e, specR_text p l hg] at h2
    refine ⟨((p : Int), l, true), ?_, h1, (goodB_parts _ _ hg).elim fun p h => h.2.2.2.1⟩
    unfold spec_ParsePuzzle.f
    exact Ev.bind h2 (evPos rfl (evSome rfl))
  · have f1 : ¬ (impR s).2.2 = true := fun k => by
      obtain ⟨a, b⟩ := impR_true s k
      obtain ⟨p, hp, _⟩ := goodB_parts _ _ a
      rw [hp, Int.toNat_natCast] at b
      rw [hp] at a
      exact h ⟨p, _, a, b⟩
    have f2 : ¬ (specR s.data.toList).2.2 = true := fun k => by
      obtain ⟨a, b⟩ := specR_true _ k
      rw [hb] at b
      obtain ⟨p, hp, _⟩ := goodB_parts _ _ a
      rw [hp, Int.toNat_natCast] at b
      rw [hp] at a
      exact h ⟨p, _, a, b⟩
    rw [impR_false s f1] at h1
    refine ⟨(0, [], false), ?_, h1, Nat.zero_le _⟩
    unfold spec_ParsePuzzle.f
    exact Ev.bind h2 (evNeg f2 (evSome rfl))
end Go.Proofs.YticmboabiemniaaDoor.X
end
section
/- The program's ParsePuzzle and the reference's come to the same, at every input; what is handed back is new. -/
namespace Go.Proofs.YticmboabiemniaaDoor.Pure
open Go.RowKit Go.Proofs.YticmboabiemniaaDoor.X Go.Proofs.YticmboabiemniaaDoorW.PrintWords Go.Proofs.YticmboabiemniaaDoorW.PrintLast
theorem FnExactParsePuzzle : laws_FnExactParsePuzzle.PureQ := by
  intro s _
  refine Ev.rounds ?_
  unfold laws_FnExactParsePuzzle.f
  refine evSplit (fun _ => evSome rfl) (fun hs => ?_)
  obtain ⟨x, h1, h2, h3⟩ := parse_both s (by omega)
  have hE := eqPuzzle_self x.1 x.2.1 (by omega)
  have hM := markPuzzle_ev x.1 x.2.1 (by omega)
  have hH := heldPuzzle_ev x.1 x.2.1.length (by omega)
  refine Ev.bind h1 (Ev.bind h2 (Ev.bind hE (evPos rfl ?_)))
  refine Ev.step (fun k => by rw [laws_FnExactParsePuzzle.j0]) ?_
  refine evNeg (by simp) (Ev.bind hM (Ev.bind hH (evNeg (by omega) (evPos rfl ?_))))
  refine Ev.bind h2 (Ev.bind hE (evPos rfl ?_))
  refine Ev.step (fun k => by rw [laws_FnExactParsePuzzle.j1]) ?_
  exact evNeg (by simp) (Ev.bind hH (evNeg (by omega) (evPos rfl (evSome rfl))))
end Go.Proofs.YticmboabiemniaaDoor.Pure
end
section
/- How an argument of any plain type is opened: what the row says of it gives what the walks read. -/
set_option linter.unusedVariables false
namespace Go.Proofs.YticmboabiemniaaDoor.Open
open Go.ChangeShapes Go.WideShapes Go.Deep Go.RowKit Go.Proofs.YticmboabiemniaaDoorW.PrintWords
/-- Whatever reads at type t is a value of the kind d, and meets wf. -/
structure Opens {α : Type} (P : Program) (t : TypeId) (d : Kd α) (wf : α → Prop) : Prop where
  intro ::
  size : P.cellsOf t = d.sz
  all : ∀ (H : Type) (enc : TypeId × Value → H) (w : World) (base : Nat) (spare : Nat → Bool) (held : Bool) (fuel : Nat) (cs : List Value) (x : DataW H × List MemPlace),
    DataW.trod enc P w base spare held fuel t cs = some x → ∃ a : α, d.K w a cs ∧ wf a
theorem opens_string {P : Program} {t : TypeId} (ht : P.underlying t = some .string) (hc : P.cellsOf t = 1) : Opens P t Kd.string (fun s => s.size ≤ maxLen) := by
  refine ⟨hc, fun H enc w base spare held fuel cs x h => ?_⟩
  obtain ⟨n, rfl, _, hw⟩ := DataW.trod_string ht h
  exact ⟨n, rfl, hw⟩
/-- The fields from place o on. -/
structure OpensFs {α : Type} (P : Program) (fs : List Field) (o : Nat) (d : Kd α) (wf : α → Prop) : Prop where
  intro ::
  all : ∀ (H : Type) (enc : TypeId × Value → H) (w : World) (base : Nat) (spare : Nat → Bool) (held : Bool) (n : Nat) (cs : List Value), cs.length = o + d.sz →
    (∀ (i : Nat) (f : Field), fs[i]? = some f → ∃ y, DataW.trod enc P w base spare held n f.type ((cs.drop f.offset).take (P.cellsOf f.type)) = some y) → ∃ a : α, d.K w a (cs.drop o) ∧ wf a
/-- A parameter. -/
theorem opens_arg {H α : Type} {enc : TypeId × Value → H} {P : Program} {W : World} {base : Nat} {spare : Nat → Bool} {held : Bool} {t : TypeId} {v : Value} {x : DataW H} {ps : List MemPlace} {d : Kd α} {wf : α → Prop} (ho : Opens P t d wf) (h : DataW.Trod enc P W base spare held t v x ps) : ∃ a : α, d.K W a v.cells.toList ∧ wf a := by
  obtain ⟨fuel, hf⟩ := h
  exact ho.2 _ _ _ _ _ _ _ _ _ hf
theorem trod_lt_arg {H : Type} {enc : TypeId × Value → H} {P : Program} {W : World} {base : Nat} {spare : Nat → Bool} {held : Bool} {t : TypeId} {v : Value} {x : DataW H} {ps : List MemPlace} (h : DataW.Trod enc P W base spare held t v x ps) : ∀ y ∈ ps, y.block < W.heap.size := by
  obtain ⟨m, hm⟩ := h
  exact DataW.trod_lt m _ _ _ hm
end Go.Proofs.YticmboabiemniaaDoor.Open
end
