/- Texts of the proof (TI); no condition. -/
import Derived.Test.YtbgnjpbcdkegoaaFa
set_option linter.unusedSimpArgs false
set_option linter.unusedVariables false
namespace Go.Proofs.D
abbrev tight_may.id : Nat := 53
abbrev tight_writer_frees.id : Nat := 54
abbrev conf_Ceil.id : Nat := 50
abbrev tight_writer_fills.id : Nat := 55
abbrev tight_all.id : Nat := 36
abbrev tight_Stages.id : Nat := 16
abbrev tight_Script.id : Nat := 18
abbrev hodmanref1_Up.id : Nat := 44
abbrev hodmanref1_Add.id : Nat := 61
abbrev hodmanref1_Round.id : Nat := 45
abbrev hodmanref1_Log.id : Nat := 46
abbrev hodmanref1_Of.id : Nat := 24
abbrev hodmanlaw21_begun.id : Nat := 12
abbrev hodmanplay_Made.id : Nat := 13
abbrev hodmanplay_Picks_Num.id : Nat := 37
abbrev hodmanplay_Picks_Raw.id : Nat := 19
abbrev hodmanref8_Over.id : Nat := 47
abbrev hodmanref17_Lowest.id : Nat := 27
abbrev hodmanref17_put.id : Nat := 35
abbrev hodmanref17_New.id : Nat := 20
abbrev hodmanref17_Find.id : Nat := 33
abbrev hodmanref17_wrong.id : Nat := 42
abbrev hodmanref1_Charge.id : Nat := 26
abbrev hodmanref1_New.id : Nat := 56
abbrev hodmanref1_Mul.id : Nat := 68
abbrev hodmanref1_Product.id : Nat := 63
abbrev hodmanref1_Many.id : Nat := 57
abbrev hodmanref8_Met.id : Nat := 40
abbrev hodmanref8_Pages.id : Nat := 64
abbrev hodmanref8_Count.id : Nat := 41
abbrev hodmanref8_Commit.id : Nat := 65
abbrev hodmanref8_Byte.id : Nat := 69
abbrev hodmanref8_Fill.id : Nat := 66
abbrev hodmanref17_place.id : Nat := 58
abbrev hodmanref8_there.id : Nat := 67
abbrev hodmanref8_Zero.id : Nat := 59
abbrev hodmanref17_give.id : Nat := 38
abbrev hodmanref8_Trim.id : Nat := 39
abbrev hodmanref1_Anew.id : Nat := 60
abbrev hodmanref17_of.id : Nat := 43
abbrev hodmanref17_Do.id : Nat := 21
abbrev hodmanref17_All.id : Nat := 25
abbrev hodmanlaw21_TightLess.id : Nat := 7
end Go.Proofs.D
