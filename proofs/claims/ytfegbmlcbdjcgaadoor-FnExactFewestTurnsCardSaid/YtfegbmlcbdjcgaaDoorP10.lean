import Derived.Test.YtfegbmlcbdjcgaaDoorP5
import Derived.Test.YtfegbmlcbdjcgaaDoorP6
import Derived.Shelf.Strings.OnBuilder
section
/- strings.Join: off the shelf. -/
--! fn strings.Join|strings_Join|making
--! uses
--! lay layJoin := shelf_lay Lays.n156 Nm 156 at Tryd
--! layx layJoinX := Builder.Extra of layJoin
--! laymod Derived.Shelf.Strings.OnBuilder Derived.Ground.NamesProg
namespace Go.Proofs.YtfegbmlcbdjcgaaDoor.X
open Go.Proofs.YtfegbmlcbdjcgaaDoor.Sq Go.RowKit Go.Proofs.YtfegbmlcbdjcgaaDoorW.PrintWords Go.Proofs.YtfegbmlcbdjcgaaDoorW.PrintLast Go.Proofs.YtfegbmlcbdjcgaaDoorW.PrintMore
attribute [local go_sem] max2_int min2_int max_two min_two max_three min_three max_four min_four   -- for this text's walks alone
set_option linter.unusedVariables false
set_option linter.unusedSimpArgs false
def strings_Join.f (l0 : List ByteArray) (a1 : ByteArray) : Option ByteArray := if l0.length ≤ 140737488355328 ∧ (Lib.join (l0.map (·.data.toList)) a1.data.toList).length ≤ 140737488355328 then some ⟨(Lib.join (l0.map (·.data.toList)) a1.data.toList).toArray⟩ else none
theorem strings_Join.spot {w : World} {a : Addr} {v : Value} (h : w.cell? a = some v) : a = ⟨a.block, a.off, none⟩ := by
  obtain ⟨b, o, s⟩ := a
  cases s with
  | none => rfl
  | some s =>
    exfalso
    simp only [World.cell?] at h
    split at h <;> simp at h
theorem strings_Join.add (b o j : Nat) : (⟨b, o, none⟩ : Addr).add j = ⟨b, o + j, none⟩ := by
  unfold Addr.add
  split
  · rename_i h
    rw [h]
    rfl
  · rfl
theorem strings_Join.calls (A0 : Option Addr) (c0 : Nat) (l0 : List ByteArray) (a1 : ByteArray) (r : ByteArray) (w : World) (hr0 : Kd.C Kd.string w A0 l0.length l0) (hc0 : l0.length ≤ c0) (h : strings_Join.f l0 a1 = some r) :
  Calls Tryd.prog 23 #[.slice A0 l0.length c0, .string a1] w fun e w' => e = .returned (.string r) ∧ Below w.heap.size w w' := by
  unfold strings_Join.f at h
  split at h
  rotate_left
  · cases h
  rename_i hl
  obtain rfl := Option.some.inj h
  cases l0 with
  | nil =>
    refine (Any.strings_Join_none layJoin layJoinX A0 c0 a1 w).mono ?_
    rintro e w' ⟨rfl, rfl⟩
    exact ⟨rfl, Below.refl _ _⟩
  | cons x t =>
    have hrd := Kd.reads_of_C (d := ByteArray.empty) hr0
    obtain ⟨ad, rfl, hcell⟩ := hrd.2.2 (Nat.succ_pos _)
    have h0 := hcell 0 (Nat.succ_pos _)
    have had : ad = ⟨ad.block, ad.off, none⟩ := strings_Join.spot (a := ad) h0
    rw [had] at hcell ⊢
    have hb : ad.block < w.heap.size := World.block_lt_of_cell? w ad h0
    refine Any.strings_Join layJoin layJoinX ad.block ad.off c0 (x :: t) a1 w (fun j y hj => ?_) hb hl.1 hc0 hl.2
    have hlt : j < (x :: t).length := (List.getElem?_eq_some_iff.1 hj).1
    have := hcell j hlt
    rw [strings_Join.add, List.getD_eq_getElem?_getD, hj] at this
    exact this
end Go.Proofs.YtfegbmlcbdjcgaaDoor.X
end
