/- Texts of the proof (TI); no condition. -/
import Derived.Test.YtbgnjpbcdkegoaaFa
set_option linter.unusedSimpArgs false
set_option linter.unusedVariables false
namespace Go.Proofs.D
abbrev tight_may.id : Nat := 53
abbrev tight_writer_frees.id : Nat := 54
abbrev conf_Ceil.id : Nat := 50
abbrev tight_writer_fills.id : Nat := 55
abbrev tight_all.id : Nat := 36
abbrev tight_Stages.id : Nat := 16
abbrev tight_Script.id : Nat := 18
abbrev hodmanref1_Up.id : Nat := 44
abbrev hodmanref1_Add.id : Nat := 61
abbrev hodmanref1_Round.id : Nat := 45
abbrev hodmanref1_Log.id : Nat := 46
abbrev hodmanref1_Of.id : Nat := 24
abbrev hodmanlaw21_begun.id : Nat := 12
abbrev hodmanref17_SameOps.id : Nat := 17
abbrev hodmanlaw21_TightForms.id : Nat := 6
end Go.Proofs.D
