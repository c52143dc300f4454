-- Written by a program of this session (wip/tools/mp.py) over the kit's print of the translation.
import Derived.Test.YtkdnonnoihllkaaProg
import Derived.Below
import Derived.Deep.Draws
import Derived.Deep.AppendLies
import Derived.Maps.AppendAt
import Derived.OwnWalk
import Derived.Laws.BytesArg
import Derived.Laws.MakeOwn
import Derived.Laws.OwnMore
import Derived.Deep.OwnRows
import Derived.Tactics
import Derived.Lib.ConvBytes
import Derived.Laws.Slices
import Derived.WalkKit
import Derived.KernelRfl
import Derived.RowKit3
import Derived.Deep.LoopGhost
import Derived.Deep.QuietTactic
import Derived.BigQuiet
import Derived.WideLaws
import Derived.Deep.DeepCutAuto
import Derived.Deep.CutBlock
import Derived.Deep.RegionHeld3
import Derived.Laws.Rows
import Derived.Lib.AppendStr
import Derived.ArgAppend
import Derived.Laws.IdiomCopy
import Derived.OrdersHeld
import Derived.Laws.BitsLemmas
import Derived.RowKit
import Derived.Test.YtkdnonnoihllkaaWWords
import Derived.Test.YtkdnonnoihllkaaWLast
import Derived.Test.YtkdnonnoihllkaaWTab
import Derived.Test.YtkdnonnoihllkaaWFour
import Derived.Test.YtkdnonnoihllkaaWQPut
import Derived.Test.YtkdnonnoihllkaaWApart
import Derived.Test.YtkdnonnoihllkaaWArr
import Derived.Test.YtkdnonnoihllkaaWZeros
import Derived.Test.YtkdnonnoihllkaaWFoot
import Derived.Test.YtkdnonnoihllkaaWKept
import Derived.Test.YtkdnonnoihllkaaWShare
import Derived.Test.YtkdnonnoihllkaaWN
import Derived.Test.YtkdnonnoihllkaaWFootNe
import Derived.Test.YtkdnonnoihllkaaWAt
import Derived.Test.YtkdnonnoihllkaaWEqStruct
import Derived.Test.YtkdnonnoihllkaaWRepsOne
import Derived.Test.YtkdnonnoihllkaaWInv
import Derived.Test.YtkdnonnoihllkaaWInvWords
import Derived.Test.YtkdnonnoihllkaaWGuard
import Derived.Test.YtkdnonnoihllkaaWNEv
import Derived.Test.YtkdnonnoihllkaaWMore
namespace Go.Proofs.Ytkdnonnoihllkaa.X
open Go.RowKit Go.Proofs.YtkdnonnoihllkaaW.PrintWords Go.Proofs.YtkdnonnoihllkaaW.PrintLast Go.Proofs.YtkdnonnoihllkaaW.PrintMore
attribute [local go_sem] max2_int min2_int max_two min_two max_three min_three max_four min_four   -- for this text's walks alone
set_option linter.unusedVariables false
set_option linter.unusedSimpArgs false



def errW : Option Int → Value
  | none => .nilIface
  | some c => .iface 0 (.int .i64 c)
theorem errW_none : errW none = .nilIface := rfl
theorem errW_some (c : Int) : errW (some c) = .iface 0 (.int .i64 c) := rfl

-- the values' own types

-- the values' own types

end Go.Proofs.Ytkdnonnoihllkaa.X
