/- Texts of the proof (OK0); no condition. -/
import Derived.Test.YtefhfajcpefeeaaConfWholec
import Derived.Test.YtefhfajcpefeeaaFb
import Derived.KernelRfl
import Derived.Test.YtefhfajcpefeeaaProg
set_option linter.unusedSimpArgs false
set_option linter.unusedVariables false
/- Each function passes the check. -/
set_option maxRecDepth 100000
namespace Go.Proofs.D
open Go
theorem calc_Log.ok : okF Try.prog 37 1 calc_Log.d = true := by kernel_rfl
theorem conf_Shift.ok : okF Try.prog 27 2 conf_Shift.d = true := by kernel_rfl
theorem calc_Add.ok : okF Try.prog 48 2 calc_Add.d = true := by kernel_rfl
theorem conf_Of.ok : okF Try.prog 26 1 conf_Of.d = true := by kernel_rfl
theorem hodmanlaw2_begun.ok : okF Try.prog 24 0 hodmanlaw2_begun.d = true := by kernel_rfl
end Go.Proofs.D
