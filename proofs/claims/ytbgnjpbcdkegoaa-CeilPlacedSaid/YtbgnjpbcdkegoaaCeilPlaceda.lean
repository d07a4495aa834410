/- Texts of the proof (TI); no condition. -/
import Derived.Test.YtbgnjpbcdkegoaaFa
set_option linter.unusedSimpArgs false
set_option linter.unusedVariables false
namespace Go.Proofs.D
abbrev conf_Ceil.id : Nat := 50
abbrev hodmanref1_Up.id : Nat := 44
abbrev hodmanref1_Add.id : Nat := 61
abbrev hodmanref1_Round.id : Nat := 45
abbrev hodmanref1_Log.id : Nat := 46
abbrev hodmanref1_Of.id : Nat := 24
abbrev hodmanplay_Made.id : Nat := 13
abbrev hodmanplay_Picks_Num.id : Nat := 37
abbrev hodmanplay_Picks_Raw.id : Nat := 19
abbrev hodmanref1_Size.id : Nat := 23
abbrev hodmanref8_Over.id : Nat := 47
abbrev hodmanref17_Lowest.id : Nat := 27
abbrev hodmanref17_put.id : Nat := 35
abbrev hodmanref17_New.id : Nat := 20
abbrev hodmanref17_Find.id : Nat := 33
abbrev hodmanref17_wrong.id : Nat := 42
abbrev hodmanref1_Charge.id : Nat := 26
abbrev hodmanref1_New.id : Nat := 56
abbrev hodmanref1_Mul.id : Nat := 68
abbrev hodmanref1_Product.id : Nat := 63
abbrev hodmanref1_Many.id : Nat := 57
abbrev hodmanref8_Met.id : Nat := 40
abbrev hodmanref8_Pages.id : Nat := 64
abbrev hodmanref8_Count.id : Nat := 41
abbrev hodmanref8_Commit.id : Nat := 65
abbrev hodmanref8_Byte.id : Nat := 69
abbrev hodmanref8_Fill.id : Nat := 66
abbrev hodmanref17_place.id : Nat := 58
abbrev hodmanref8_there.id : Nat := 67
abbrev hodmanref8_Zero.id : Nat := 59
abbrev hodmanref17_give.id : Nat := 38
abbrev hodmanref8_Trim.id : Nat := 39
abbrev hodmanref1_Anew.id : Nat := 60
abbrev hodmanref17_of.id : Nat := 43
abbrev hodmanref17_Do.id : Nat := 21
abbrev ceil_of.id : Nat := 48
abbrev ceil_Least.id : Nat := 29
abbrev calc_Log.id : Nat := 62
abbrev conf_Shift.id : Nat := 49
abbrev ceil_Within.id : Nat := 30
abbrev hodmanlaw20_begun.id : Nat := 28
abbrev hodmanplay_Picks_Over.id : Nat := 31
abbrev hodmanplay_Picks_Size.id : Nat := 51
abbrev hodmanplay_Picks_Block.id : Nat := 52
abbrev hodmanplay_Picks_Op.id : Nat := 32
abbrev hodmanref1_Shift.id : Nat := 34
abbrev hodmanlaw20_CeilPlaced.id : Nat := 9
end Go.Proofs.D
