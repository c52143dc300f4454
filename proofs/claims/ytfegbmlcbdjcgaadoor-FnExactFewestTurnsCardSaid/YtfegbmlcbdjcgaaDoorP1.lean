import Derived.Test.YtfegbmlcbdjcgaaDoorProg
import Derived.Lib.LaidTab
import Derived.Lib.ItoaNum
import Derived.Lib.SmallJoins
import Derived.KernelRfl
section
/- The library's tables that a contract asks for. -/
namespace Go.Proofs.YtfegbmlcbdjcgaaDoor.X
open Go.RowKit
def Tab_pow10 (w : World) : Prop := Lib.TabIs Tryd.prog w "internal/strconv.uint64pow10" .u64 Lib.pow10Tab
theorem Tab_pow10.below {w w1 : World} (h : Tab_pow10 w) (hb : Below w.heap.size w w1) : Tab_pow10 w1 := Go.Joins.var_stays (g := 0) (by kernel_rfl) h hb (Nat.le_refl _)
end Go.Proofs.YtfegbmlcbdjcgaaDoor.X
end
