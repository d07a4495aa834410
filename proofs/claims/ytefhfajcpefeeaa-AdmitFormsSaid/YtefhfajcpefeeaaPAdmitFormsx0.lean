-- Written by a program of this project (a patched copy of the print): the machine's side of a law. Lean checks it.
import Derived.Test.YtefhfajcpefeeaaProg
import Derived.Below
import Derived.Deep.Draws
import Derived.Deep.AppendLies
import Derived.Maps.AppendAt
import Derived.OwnWalk
import Derived.Laws.BytesArg
import Derived.Laws.MakeOwn
import Derived.Laws.OwnMore
import Derived.Deep.OwnRows
import Derived.Tactics
import Derived.Lib.ConvBytes
import Derived.Laws.Slices
import Derived.WalkKit
import Derived.KernelRfl
import Derived.RowKit3
import Derived.Deep.LoopGhost
import Derived.Deep.QuietTactic
import Derived.BigQuiet
import Derived.WideLaws
import Derived.Deep.DeepCutAuto
import Derived.Deep.CutBlock
import Derived.Deep.RegionHeld3
import Derived.Laws.Rows
import Derived.Lib.AppendStr
import Derived.ArgAppend
import Derived.Laws.IdiomCopy
import Derived.OrdersHeld
import Derived.Laws.BitsLemmas
import Derived.RowKit
import Derived.Test.YtefhfajcpefeeaaWWords
import Derived.Test.YtefhfajcpefeeaaWLast
import Derived.Test.YtefhfajcpefeeaaWTab
import Derived.Test.YtefhfajcpefeeaaWFour
import Derived.Test.YtefhfajcpefeeaaWQPut
import Derived.Test.YtefhfajcpefeeaaWApart
import Derived.Test.YtefhfajcpefeeaaWArr
import Derived.Test.YtefhfajcpefeeaaWZeros
import Derived.Test.YtefhfajcpefeeaaWFoot
import Derived.Test.YtefhfajcpefeeaaWKept
import Derived.Test.YtefhfajcpefeeaaWShare
import Derived.Test.YtefhfajcpefeeaaWN
import Derived.Test.YtefhfajcpefeeaaWFootNe
import Derived.Test.YtefhfajcpefeeaaWAt
import Derived.Test.YtefhfajcpefeeaaWEqStruct
import Derived.Test.YtefhfajcpefeeaaWRepsOne
import Derived.Test.YtefhfajcpefeeaaWInv
import Derived.Test.YtefhfajcpefeeaaWInvWords
import Derived.Test.YtefhfajcpefeeaaWGuard
import Derived.Test.YtefhfajcpefeeaaWNEv
import Derived.Test.YtefhfajcpefeeaaWMore
namespace Go.Proofs.Ytefhfajcpefeeaa.PAdmitForms
open Go.RowKit Go.Proofs.YtefhfajcpefeeaaW.PrintWords Go.Proofs.YtefhfajcpefeeaaW.PrintLast Go.Proofs.YtefhfajcpefeeaaW.PrintMore
attribute [local go_sem] max2_int min2_int max_two min_two max_three min_three max_four min_four   -- for this text's walks alone
set_option linter.unusedVariables false
set_option linter.unusedSimpArgs false



def errW : Option Int → Value
  | none => .nilIface
  | some c => .iface 0 (.int .i64 c)
theorem errW_none : errW none = .nilIface := rfl
theorem errW_some (c : Int) : errW (some c) = .iface 0 (.int .i64 c) := rfl

theorem info3 : (Try.prog.info? 3).map (fun i => (i.zero, i.size, i.bytes)) = some (some (.int .i64 0), 1, 8) := by kernel_rfl
theorem info33 : (Try.prog.info? 33).map (fun i => (i.zero, i.size, i.bytes)) = some (some (.int .i64 0), 1, 8) := by kernel_rfl
-- the values' own types

end Go.Proofs.Ytefhfajcpefeeaa.PAdmitForms
