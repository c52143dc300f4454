import Derived.Test.YtfegbmlcbdjcgaaDoorP5
import Derived.Test.YtfegbmlcbdjcgaaDoorP6
import Derived.Shelf.Strconv.Itoa3
import Derived.Lib.AppendIntMem
section
/- strconv.Itoa at every int: off the shelf; a table is asked for. -/
--! fn strconv.Itoa|strconv_Itoa|making
--! uses
--! asks pow10
--! lay layItoa := shelf_lay LaysM.n171 Nm 171 at Tryd
--! laymod Derived.Shelf.Strconv.Itoa3 Derived.Ground.NamesProg
namespace Go.Proofs.YtfegbmlcbdjcgaaDoor.X
open Go.Proofs.YtfegbmlcbdjcgaaDoor.Sq Go.RowKit Go.Proofs.YtfegbmlcbdjcgaaDoorW.PrintWords Go.Proofs.YtfegbmlcbdjcgaaDoorW.PrintLast Go.Proofs.YtfegbmlcbdjcgaaDoorW.PrintMore
attribute [local go_sem] max2_int min2_int max_two min_two max_three min_three max_four min_four   -- for this text's walks alone
set_option linter.unusedVariables false
set_option linter.unusedSimpArgs false
def strconv_Itoa.f (a0 : Int) : Option ByteArray := if -9223372036854775808 ≤ a0 ∧ a0 ≤ 9223372036854775807 then some ⟨(Lib.itoa a0).toArray⟩ else none
theorem strconv_Itoa.calls (a0 : Int) (r : ByteArray) (w : World) (hT_pow10 : Tab_pow10 w) (h : strconv_Itoa.f a0 = some r) :
  Calls Tryd.prog 22 #[.int .i64 a0] w fun e w' => e = .returned (.string r) ∧ Below w.heap.size w w' := by
  unfold strconv_Itoa.f at h
  split at h
  · rename_i hc
    obtain rfl := Option.some.inj h
    refine (Any.strconv_Itoa layItoa a0 hc.1 hc.2 w hT_pow10).mono ?_
    rintro e w' ⟨rfl, k, os, rfl⟩
    exact ⟨rfl, Lib.below_grow w.heap.size w (Nat.le_refl _) k os⟩
  · cases h
end Go.Proofs.YtfegbmlcbdjcgaaDoor.X
end
