import Derived.Test.YtncdecmcdlfmmaaDoorP5
import Derived.Test.YtncdecmcdlfmmaaDoorP6
import Derived.Shelf.Strings.FieldsFuncGrows
section
/- strings.FieldsFunc with the function value of impl.numbers: the words between signs. -/
--! fn strings.FieldsFunc|strings_FieldsFunc|making
--! uses strings.ContainsRune
--! lay ffLay := shelf_lay Lays.n229 Nm 229 at Tryd
--! laymod Derived.Shelf.Strings.FieldsFuncGrows Derived.Ground.NamesProg
namespace Go.Proofs.YtncdecmcdlfmmaaDoor.X
open Go.Proofs.YtncdecmcdlfmmaaDoor.Sq Go.RowKit Go.Proofs.YtncdecmcdlfmmaaDoorW.PrintWords Go.Proofs.YtncdecmcdlfmmaaDoorW.PrintLast Go.Proofs.YtncdecmcdlfmmaaDoorW.PrintMore
attribute [local go_sem] max2_int min2_int max_two min_two max_three min_three max_four min_four   -- for this text's walks alone
set_option linter.unusedVariables false
set_option linter.unusedSimpArgs false
def strings_FieldsFunc.f (a0 a1 : ByteArray) : Option (List ByteArray) := if a0.size ≤ 4294967296 ∧ a1.size ≤ 1000 ∧ ascB a1 = true then some (Lib.goFieldsP (inSigns a1) a0) else none
set_option maxHeartbeats 2000000 in
theorem ff_pred (g : Nat) (a : ByteArray) (h1 : a.size ≤ 1000) (h2 : ascB a = true) (w : World) (hb : w.heap[g]? = some (.cells #[.string a] 9 (0, 0))) : PredGrows Tryd.prog 66 #[.pointer (some ⟨g, 0, none⟩)] (inSigns a) w := by
  intro W x hx hB
  have hb1 : W.heap[g]? = some (.cells #[.string a] 9 (0, 0)) := (hB.block _ (blk_lt hb)).trans hb
  have hc : W.cell? ⟨g, 0, none⟩ = some (.string a) := by rw [blk_cell hb1]; rfl
  have hf : strings_ContainsRune.f a (x : Int) = some (inSigns a x) := by
    unfold strings_ContainsRune.f
    rw [if_pos ⟨h1, h2, by omega, by omega⟩, Int.toNat_natCast]
  show Calls Tryd.prog 66 #[.int .i32 (x : Int), .pointer (some ⟨g, 0, none⟩)] W _
  go_enter Tryd.func66, Tryd.ntmps66
  go_wp2_with (first | (go_at_call 67; refine (strings_ContainsRune.calls a (x : Int) _ _ hf).mono ?_; rintro e w' ⟨rfl, hb⟩) | fail)
  go_ret
  exact ⟨rfl, hb⟩
theorem strings_FieldsFunc.calls (a0 : ByteArray) (g1_0 : Nat) (a1 : ByteArray) (r : List ByteArray) (w : World) (hb : w.heap[g1_0]? = some (.cells #[.string a1] 9 (0, 0))) (h : strings_FieldsFunc.f a0 a1 = some r) :
  Calls Tryd.prog 65 #[.string a0, .func (.func 66) #[] #[.pointer (some ⟨g1_0, 0, none⟩)]] w fun e w' => ∃ v0_ : Value, e = .returned (v0_) ∧ Kd.R Kd.string 9 w' w.heap.size (fun _ => True) v0_ r ∧ Below w.heap.size w w' := by
  unfold strings_FieldsFunc.f at h
  split at h
  rotate_left
  · cases h
  rename_i hc
  obtain ⟨h1, h2, h3⟩ := hc
  obtain rfl := Option.some.inj h
  refine (Any.strings_FieldsFunc_grows ffLay 66 _ (enters_of Tryd.func66 (by kernel_rfl) rfl) (inSigns a1) a0 w h1 (ff_pred g1_0 a1 h2 h3 w hb) (by kernel_rfl) (by kernel_rfl)).mono ?_
  rintro e w' ⟨A, rfl, hA, ho, hb'⟩
  exact ⟨_, rfl, Kd.R_of_own (by have h1 : w'.ownsRow w.heap.size 9 1 (.slice (some ⟨A, 0, none⟩) (Lib.goFieldsP (inSigns a1) a0).length (Lib.goFieldsP (inSigns a1) a0).length) (Lib.goFieldsP (inSigns a1) a0).length ((Lib.goFieldsP (inSigns a1) a0).map Value.string) := ho; simpa [encs] using h1) (fun _ _ => trivial), hb'⟩
end Go.Proofs.YtncdecmcdlfmmaaDoor.X
end
