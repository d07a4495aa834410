/- Texts of the proof (TI); no condition. -/
import Derived.Test.YtefhfajcpefeeaaFa
set_option linter.unusedSimpArgs false
set_option linter.unusedVariables false
namespace Go.Proofs.D
abbrev calc_Log.id : Nat := 37
abbrev calc_Up.id : Nat := 38
abbrev conf_Shift.id : Nat := 27
abbrev conf_within.id : Nat := 46
abbrev calc_Add.id : Nat := 48
abbrev calc_Round.id : Nat := 47
abbrev conf_Of.id : Nat := 26
abbrev conf_Ceil.id : Nat := 28
abbrev hodmanlaw2_begun.id : Nat := 24
abbrev hodmanlaw2_ConfWhole.id : Nat := 8
end Go.Proofs.D
