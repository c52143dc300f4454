import Derived.Test.YtncdecmcdlfmmaaDoorProg
import Derived.Lib.LaidTab
import Derived.Lib.ItoaNum
import Derived.Lib.SmallJoins
import Derived.KernelRfl
section
/- The library's tables that a contract asks for. -/
namespace Go.Proofs.YtncdecmcdlfmmaaDoor.X
open Go.RowKit
def Tab_errRange (w : World) : Prop := ∃ tp p, w.var? Tryd.prog "strconv.ErrRange" = some #[.iface tp p]
theorem Tab_errRange.below {w w1 : World} (h : Tab_errRange w) (hb : Below w.heap.size w w1) : Tab_errRange w1 := h.elim fun tp h => h.elim fun p h => ⟨tp, p, Go.Joins.var_stays (g := 4) (by kernel_rfl) h hb (Nat.le_refl _)⟩
def Tab_errSyntax (w : World) : Prop := ∃ tp p, w.var? Tryd.prog "strconv.ErrSyntax" = some #[.iface tp p]
theorem Tab_errSyntax.below {w w1 : World} (h : Tab_errSyntax w) (hb : Below w.heap.size w w1) : Tab_errSyntax w1 := h.elim fun tp h => h.elim fun p h => ⟨tp, p, Go.Joins.var_stays (g := 3) (by kernel_rfl) h hb (Nat.le_refl _)⟩
def Tab_pow10 (w : World) : Prop := Lib.TabIs Tryd.prog w "internal/strconv.uint64pow10" .u64 Lib.pow10Tab
theorem Tab_pow10.below {w w1 : World} (h : Tab_pow10 w) (hb : Below w.heap.size w w1) : Tab_pow10 w1 := Go.Joins.var_stays (g := 5) (by kernel_rfl) h hb (Nat.le_refl _)
end Go.Proofs.YtncdecmcdlfmmaaDoor.X
end
