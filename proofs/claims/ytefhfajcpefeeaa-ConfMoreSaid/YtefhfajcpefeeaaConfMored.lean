/- Texts of the proof (OK0); no condition. -/
import Derived.Test.YtefhfajcpefeeaaConfMorec
import Derived.Test.YtefhfajcpefeeaaFb
import Derived.KernelRfl
import Derived.Test.YtefhfajcpefeeaaProg
set_option linter.unusedSimpArgs false
set_option linter.unusedVariables false
/- Each function passes the check. -/
set_option maxRecDepth 100000
namespace Go.Proofs.D
open Go
theorem calc_Log.ok : okF Try.prog 37 1 calc_Log.d = true := by kernel_rfl
theorem conf_Shift.ok : okF Try.prog 27 2 conf_Shift.d = true := by kernel_rfl
theorem hodmanplay_Picks_Num.ok : okF Try.prog 45 2 hodmanplay_Picks_Num.d = true := by kernel_rfl
theorem conf_within.ok : okF Try.prog 46 1 conf_within.d = true := by kernel_rfl
theorem calc_Round.ok : okF Try.prog 47 2 calc_Round.d = true := by kernel_rfl
theorem conf_Ceil.ok : okF Try.prog 28 2 conf_Ceil.d = true := by kernel_rfl
theorem hodmanlaw2_ConfMore.ok : okF Try.prog 10 4 hodmanlaw2_ConfMore.d = true := by kernel_rfl
end Go.Proofs.D
