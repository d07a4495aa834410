/- Texts of the proof (OK1); no condition. -/
import Derived.Test.YtefhfajcpefeeaaConfWholec
import Derived.Test.YtefhfajcpefeeaaFb
import Derived.KernelRfl
import Derived.Test.YtefhfajcpefeeaaProg
set_option linter.unusedSimpArgs false
set_option linter.unusedVariables false
/- Each function passes the check. -/
set_option maxRecDepth 100000
namespace Go.Proofs.D
open Go
theorem calc_Up.ok : okF Try.prog 38 1 calc_Up.d = true := by kernel_rfl
theorem conf_within.ok : okF Try.prog 46 1 conf_within.d = true := by kernel_rfl
theorem calc_Round.ok : okF Try.prog 47 2 calc_Round.d = true := by kernel_rfl
theorem conf_Ceil.ok : okF Try.prog 28 2 conf_Ceil.d = true := by kernel_rfl
theorem hodmanlaw2_ConfWhole.ok : okF Try.prog 8 1 hodmanlaw2_ConfWhole.d = true := by kernel_rfl
end Go.Proofs.D
