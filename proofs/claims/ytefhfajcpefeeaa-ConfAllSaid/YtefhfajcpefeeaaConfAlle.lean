/- Texts of the proof (OK1); no condition. -/
import Derived.Test.YtefhfajcpefeeaaConfAllc
import Derived.Test.YtefhfajcpefeeaaFb
import Derived.KernelRfl
import Derived.Test.YtefhfajcpefeeaaProg
set_option linter.unusedSimpArgs false
set_option linter.unusedVariables false
/- Each function passes the check. -/
set_option maxRecDepth 100000
namespace Go.Proofs.D
open Go
theorem calc_Up.ok : okF Try.prog 38 1 calc_Up.d = true := by kernel_rfl
theorem hodmanref1_Log.ok : okF Try.prog 39 1 hodmanref1_Log.d = true := by kernel_rfl
theorem hodmanref1_Add.ok : okF Try.prog 49 2 hodmanref1_Add.d = true := by kernel_rfl
theorem hodmanref1_Of.ok : okF Try.prog 23 1 hodmanref1_Of.d = true := by kernel_rfl
theorem hodmanplay_Picks_Num.ok : okF Try.prog 45 2 hodmanplay_Picks_Num.d = true := by kernel_rfl
theorem hodmanref1_Size.ok : okF Try.prog 43 2 hodmanref1_Size.d = true := by kernel_rfl
theorem conf_within.ok : okF Try.prog 46 1 conf_within.d = true := by kernel_rfl
theorem calc_Round.ok : okF Try.prog 47 2 calc_Round.d = true := by kernel_rfl
theorem conf_Ceil.ok : okF Try.prog 28 2 conf_Ceil.d = true := by kernel_rfl
theorem hodmanref1_Ceil.ok : okF Try.prog 29 2 hodmanref1_Ceil.d = true := by kernel_rfl
end Go.Proofs.D
