/- ClassAll: texts of the proof (OK1); no condition. -/
import Derived.Test.YtefhfajcpefeeaaClassAlld
import Derived.Test.YtefhfajcpefeeaaClassAllb
import Derived.KernelRfl
import Derived.Test.YtefhfajcpefeeaaProg
set_option linter.unusedSimpArgs false
set_option linter.unusedVariables false
/- Each function passes the check. -/
set_option maxRecDepth 100000
namespace Go.Proofs.D
open Go
theorem calc_Up.ok : okF Try.prog 38 1 calc_Up.d = true := by kernel_rfl
theorem calc_Mul.ok : okF Try.prog 41 2 calc_Mul.d = true := by kernel_rfl
theorem conf_Shift.ok : okF Try.prog 27 2 conf_Shift.d = true := by kernel_rfl
theorem hodmanref1_Log.ok : okF Try.prog 39 1 hodmanref1_Log.d = true := by kernel_rfl
theorem hodmanref1_Add.ok : okF Try.prog 49 2 hodmanref1_Add.d = true := by kernel_rfl
theorem hodmanref1_Of.ok : okF Try.prog 23 1 hodmanref1_Of.d = true := by kernel_rfl
theorem hodmanplay_Made.ok : okF Try.prog 15 1 hodmanplay_Made.d = true := by kernel_rfl
theorem hodmanplay_Picks_Raw.ok : okF Try.prog 25 2 hodmanplay_Picks_Raw.d = true := by kernel_rfl
theorem hodmanref1_Charge.ok : okF Try.prog 18 3 hodmanref1_Charge.d = true := by kernel_rfl
theorem hodmanref1_Product.ok : okF Try.prog 20 3 hodmanref1_Product.d = true := by kernel_rfl
theorem hodmanref1_Shift.ok : okF Try.prog 22 2 hodmanref1_Shift.d = true := by kernel_rfl
end Go.Proofs.D
