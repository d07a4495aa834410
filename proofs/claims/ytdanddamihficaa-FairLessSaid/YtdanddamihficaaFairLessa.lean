/- Texts of the proof (TI); no condition. -/
import Derived.Test.YtdanddamihficaaFa
set_option linter.unusedSimpArgs false
set_option linter.unusedVariables false
namespace Go.Proofs.D
abbrev calc_Mul.id : Nat := 62
abbrev fair_client_asks.id : Nat := 45
abbrev class_Product.id : Nat := 46
abbrev fair_client_goes.id : Nat := 47
abbrev fair_client_does.id : Nat := 30
abbrev fair_May.id : Nat := 17
abbrev hodmanref1_Up.id : Nat := 42
abbrev hodmanref1_Add.id : Nat := 61
abbrev hodmanref1_Round.id : Nat := 43
abbrev hodmanref1_Log.id : Nat := 44
abbrev hodmanref1_Of.id : Nat := 27
abbrev hodmanlaw23_begun.id : Nat := 12
abbrev hodmanplay_Made.id : Nat := 13
abbrev hodmanplay_Picks_Num.id : Nat := 28
abbrev hodmanplay_Picks_Raw.id : Nat := 14
abbrev hodmanplay_Picks_Over.id : Nat := 29
abbrev hodmanlaw23_Client.id : Nat := 16
abbrev hodmanplay_Picks_Conf.id : Nat := 19
abbrev hodmanlaw23_FairLess.id : Nat := 4
end Go.Proofs.D
