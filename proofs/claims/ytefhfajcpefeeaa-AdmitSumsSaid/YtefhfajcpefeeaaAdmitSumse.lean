/- Texts of the proof (OK1); no condition. -/
import Derived.Test.YtefhfajcpefeeaaAdmitSumsc
import Derived.Test.YtefhfajcpefeeaaFb
import Derived.KernelRfl
import Derived.Test.YtefhfajcpefeeaaProg
set_option linter.unusedSimpArgs false
set_option linter.unusedVariables false
/- Each function passes the check. -/
set_option maxRecDepth 100000
namespace Go.Proofs.D
open Go
theorem calc_Up.ok : okF Try.prog 38 1 calc_Up.d = true := by kernel_rfl
theorem calc_Mul.ok : okF Try.prog 41 2 calc_Mul.d = true := by kernel_rfl
theorem hodmanref1_Log.ok : okF Try.prog 39 1 hodmanref1_Log.d = true := by kernel_rfl
theorem hodmanref1_Add.ok : okF Try.prog 49 2 hodmanref1_Add.d = true := by kernel_rfl
theorem hodmanref1_Of.ok : okF Try.prog 23 1 hodmanref1_Of.d = true := by kernel_rfl
theorem hodmanplay_Picks_Num.ok : okF Try.prog 45 2 hodmanplay_Picks_Num.d = true := by kernel_rfl
theorem hodmanplay_Picks_Conf.ok : okF Try.prog 16 2 hodmanplay_Picks_Conf.d = true := by kernel_rfl
theorem admit_New.ok : okF Try.prog 31 4 admit_New.d = true := by kernel_rfl
theorem admit_Anew.ok : okF Try.prog 35 4 admit_Anew.d = true := by kernel_rfl
theorem hodmanlaw16_AdmitSums.ok : okF Try.prog 12 6 hodmanlaw16_AdmitSums.d = true := by kernel_rfl
end Go.Proofs.D
