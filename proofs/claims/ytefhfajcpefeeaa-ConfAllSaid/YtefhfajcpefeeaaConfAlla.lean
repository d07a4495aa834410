/- Texts of the proof (TI); no condition. -/
import Derived.Test.YtefhfajcpefeeaaFa
set_option linter.unusedSimpArgs false
set_option linter.unusedVariables false
namespace Go.Proofs.D
abbrev calc_Log.id : Nat := 37
abbrev calc_Up.id : Nat := 38
abbrev conf_Shift.id : Nat := 27
abbrev hodmanref1_Log.id : Nat := 39
abbrev hodmanref1_Up.id : Nat := 40
abbrev hodmanref1_Add.id : Nat := 49
abbrev hodmanref1_Round.id : Nat := 44
abbrev hodmanref1_Of.id : Nat := 23
abbrev hodmanplay_Made.id : Nat := 15
abbrev hodmanplay_Picks_Num.id : Nat := 45
abbrev hodmanplay_Picks_Raw.id : Nat := 25
abbrev hodmanref1_Size.id : Nat := 43
abbrev hodmanref1_Shift.id : Nat := 22
abbrev conf_within.id : Nat := 46
abbrev calc_Add.id : Nat := 48
abbrev calc_Round.id : Nat := 47
abbrev conf_Of.id : Nat := 26
abbrev conf_Ceil.id : Nat := 28
abbrev hodmanlaw2_begun.id : Nat := 24
abbrev hodmanref1_Ceil.id : Nat := 29
abbrev hodmanlaw2_ConfAll.id : Nat := 7
end Go.Proofs.D
