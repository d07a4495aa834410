/- Texts of the proof (TI); no condition. -/
import Derived.Test.YtbgnjpbcdkegoaaFa
set_option linter.unusedSimpArgs false
set_option linter.unusedVariables false
namespace Go.Proofs.D
abbrev conf_Ceil.id : Nat := 50
abbrev hodmanref1_Up.id : Nat := 44
abbrev hodmanref1_Add.id : Nat := 61
abbrev hodmanref1_Round.id : Nat := 45
abbrev hodmanref1_Log.id : Nat := 46
abbrev hodmanref1_Of.id : Nat := 24
abbrev hodmanplay_Made.id : Nat := 13
abbrev hodmanplay_Picks_Num.id : Nat := 37
abbrev hodmanplay_Picks_Raw.id : Nat := 19
abbrev hodmanplay_Picks_Conf.id : Nat := 14
abbrev hodmanref1_Size.id : Nat := 23
abbrev hodmanref8_Over.id : Nat := 47
abbrev hodmanref17_Lowest.id : Nat := 27
abbrev hodmanref1_Ceil.id : Nat := 22
abbrev ceil_of.id : Nat := 48
abbrev ceil_Least.id : Nat := 29
abbrev calc_Log.id : Nat := 62
abbrev conf_Shift.id : Nat := 49
abbrev ceil_Within.id : Nat := 30
abbrev hodmanlaw20_begun.id : Nat := 28
abbrev hodmanlaw20_CeilHolds.id : Nat := 11
end Go.Proofs.D
