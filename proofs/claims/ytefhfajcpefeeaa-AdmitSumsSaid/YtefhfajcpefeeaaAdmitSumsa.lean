/- Texts of the proof (TI); no condition. -/
import Derived.Test.YtefhfajcpefeeaaFa
set_option linter.unusedSimpArgs false
set_option linter.unusedVariables false
namespace Go.Proofs.D
abbrev calc_Log.id : Nat := 37
abbrev calc_Up.id : Nat := 38
abbrev class_Charge.id : Nat := 17
abbrev calc_Mul.id : Nat := 41
abbrev class_Product.id : Nat := 19
abbrev hodmanref1_Log.id : Nat := 39
abbrev hodmanref1_Up.id : Nat := 40
abbrev hodmanref1_Add.id : Nat := 49
abbrev hodmanref1_Round.id : Nat := 44
abbrev hodmanref1_Of.id : Nat := 23
abbrev hodmanplay_Made.id : Nat := 15
abbrev hodmanplay_Picks_Num.id : Nat := 45
abbrev hodmanplay_Picks_Raw.id : Nat := 25
abbrev hodmanplay_Picks_Conf.id : Nat := 16
abbrev calc_Add.id : Nat := 48
abbrev admit_New.id : Nat := 31
abbrev admit_Many.id : Nat := 33
abbrev admit_Anew.id : Nat := 35
abbrev hodmanlaw16_begun.id : Nat := 30
abbrev hodmanlaw16_AdmitSums.id : Nat := 12
end Go.Proofs.D
