/- Texts of the proof (TI); no condition. -/
import Derived.Test.YtdanddamihficaaFa
set_option linter.unusedSimpArgs false
set_option linter.unusedVariables false
namespace Go.Proofs.D
abbrev calc_Mul.id : Nat := 62
abbrev class_Product.id : Nat := 46
abbrev hodmanref1_Up.id : Nat := 42
abbrev hodmanref1_Add.id : Nat := 61
abbrev hodmanref1_Round.id : Nat := 43
abbrev hodmanref1_Log.id : Nat := 44
abbrev hodmanref1_Of.id : Nat := 27
abbrev hodmanplay_Made.id : Nat := 13
abbrev hodmanplay_Picks_Num.id : Nat := 28
abbrev hodmanplay_Picks_Raw.id : Nat := 14
abbrev hodmanref17_New.id : Nat := 15
abbrev hodmanplay_Picks_Over.id : Nat := 29
abbrev hodmanref17_wrong.id : Nat := 36
abbrev hodmanref1_Charge.id : Nat := 59
abbrev hodmanref1_New.id : Nat := 48
abbrev hodmanref1_Mul.id : Nat := 72
abbrev hodmanref1_Product.id : Nat := 60
abbrev hodmanref1_Many.id : Nat := 49
abbrev hodmanref8_Over.id : Nat := 52
abbrev hodmanref8_Met.id : Nat := 33
abbrev hodmanref17_Lowest.id : Nat := 63
abbrev hodmanref8_Pages.id : Nat := 64
abbrev hodmanref8_Count.id : Nat := 34
abbrev hodmanref8_Commit.id : Nat := 65
abbrev hodmanref8_Byte.id : Nat := 73
abbrev hodmanref8_Fill.id : Nat := 66
abbrev hodmanref17_put.id : Nat := 67
abbrev hodmanref17_place.id : Nat := 50
abbrev hodmanref8_there.id : Nat := 68
abbrev hodmanref8_Zero.id : Nat := 51
abbrev hodmanref17_give.id : Nat := 31
abbrev hodmanref8_Trim.id : Nat := 32
abbrev hodmanref17_Find.id : Nat := 35
abbrev hodmanref1_Anew.id : Nat := 53
abbrev hodmanref17_of.id : Nat := 37
abbrev hodmanref17_Do.id : Nat := 18
abbrev hodmanref17_All.id : Nat := 22
abbrev calc_Log.id : Nat := 74
abbrev calc_Up.id : Nat := 75
abbrev class_Charge.id : Nat := 70
abbrev same_reader_charge.id : Nat := 56
abbrev same_moved.id : Nat := 57
abbrev slices_Index_int_int.id : Nat := 76
abbrev slices_Contains_int_int.id : Nat := 71
abbrev same_reader_knows.id : Nat := 58
abbrev same_reader_does.id : Nat := 39
abbrev same_Plain.id : Nat := 24
abbrev api_Ans.id : Nat := 41
abbrev same_Same.id : Nat := 26
abbrev hodmanlaw24_begun.id : Nat := 20
abbrev hodmanref1_Size.id : Nat := 69
abbrev hodmanplay_Picks_Size.id : Nat := 54
abbrev hodmanplay_Picks_Block.id : Nat := 55
abbrev hodmanplay_Picks_Op.id : Nat := 38
abbrev hodmanplay_Picks_Ops.id : Nat := 21
abbrev hodmanref17_SameAns.id : Nat := 23
abbrev hodmanref17_charged.id : Nat := 40
abbrev hodmanref17_Plain.id : Nat := 25
abbrev hodmanlaw24_SameAll.id : Nat := 6
end Go.Proofs.D
