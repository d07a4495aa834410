-- Written by a program of this project (a patched copy of the print): the machine's side of a law. Lean checks it.
import Derived.Test.YtikonphhbfilfaaProg
import Derived.Below
import Derived.Deep.Draws
import Derived.Deep.AppendLies
import Derived.Maps.AppendAt
import Derived.OwnWalk
import Derived.Laws.BytesArg
import Derived.Laws.MakeOwn
import Derived.Laws.OwnMore
import Derived.Deep.OwnRows
import Derived.Tactics
import Derived.Lib.ConvBytes
import Derived.Laws.Slices
import Derived.WalkKit
import Derived.KernelRfl
import Derived.RowKit3
import Derived.Deep.LoopGhost
import Derived.Deep.QuietTactic
import Derived.BigQuiet
import Derived.WideLaws
import Derived.Deep.DeepCutAuto
import Derived.Deep.CutBlock
import Derived.Deep.RegionHeld3
import Derived.Laws.Rows
import Derived.Lib.AppendStr
import Derived.ArgAppend
import Derived.Laws.IdiomCopy
import Derived.OrdersHeld
import Derived.Laws.BitsLemmas
import Derived.RowKit
import Derived.Test.YtikonphhbfilfaaWWords
import Derived.Test.YtikonphhbfilfaaWLast
import Derived.Test.YtikonphhbfilfaaWTab
import Derived.Test.YtikonphhbfilfaaWFour
import Derived.Test.YtikonphhbfilfaaWQPut
import Derived.Test.YtikonphhbfilfaaWApart
import Derived.Test.YtikonphhbfilfaaWArr
import Derived.Test.YtikonphhbfilfaaWZeros
import Derived.Test.YtikonphhbfilfaaWFoot
import Derived.Test.YtikonphhbfilfaaWKept
import Derived.Test.YtikonphhbfilfaaWShare
import Derived.Test.YtikonphhbfilfaaWN
import Derived.Test.YtikonphhbfilfaaWFootNe
import Derived.Test.YtikonphhbfilfaaWAt
import Derived.Test.YtikonphhbfilfaaWEqStruct
import Derived.Test.YtikonphhbfilfaaWRepsOne
import Derived.Test.YtikonphhbfilfaaWInv
import Derived.Test.YtikonphhbfilfaaWInvWords
import Derived.Test.YtikonphhbfilfaaWGuard
import Derived.Test.YtikonphhbfilfaaWNEv
import Derived.Test.YtikonphhbfilfaaWMore
namespace Go.Proofs.Ytikonphhbfilfaa.PCalcPowers
open Go.RowKit Go.Proofs.YtikonphhbfilfaaW.PrintWords Go.Proofs.YtikonphhbfilfaaW.PrintLast Go.Proofs.YtikonphhbfilfaaW.PrintMore
attribute [local go_sem] max2_int min2_int max_two min_two max_three min_three max_four min_four   -- for this text's walks alone
set_option linter.unusedVariables false
set_option linter.unusedSimpArgs false



def errW : Option Int → Value
  | none => .nilIface
  | some c => .iface 0 (.int .i64 c)
theorem errW_none : errW none = .nilIface := rfl
theorem errW_some (c : Int) : errW (some c) = .iface 0 (.int .i64 c) := rfl

-- the values' own types

end Go.Proofs.Ytikonphhbfilfaa.PCalcPowers
