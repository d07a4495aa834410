/- ClassAll: texts of the proof (OK0); no condition. -/
import Derived.Test.YtefhfajcpefeeaaClassAlld
import Derived.Test.YtefhfajcpefeeaaClassAllb
import Derived.KernelRfl
import Derived.Test.YtefhfajcpefeeaaProg
set_option linter.unusedSimpArgs false
set_option linter.unusedVariables false
/- Each function passes the check. -/
set_option maxRecDepth 100000
namespace Go.Proofs.D
open Go
theorem calc_Log.ok : okF Try.prog 37 1 calc_Log.d = true := by kernel_rfl
theorem class_Charge.ok : okF Try.prog 17 3 class_Charge.d = true := by kernel_rfl
theorem class_Product.ok : okF Try.prog 19 3 class_Product.d = true := by kernel_rfl
theorem class_Class.ok : okF Try.prog 21 2 class_Class.d = true := by kernel_rfl
theorem hodmanref1_Up.ok : okF Try.prog 40 1 hodmanref1_Up.d = true := by kernel_rfl
theorem hodmanref1_Round.ok : okF Try.prog 44 2 hodmanref1_Round.d = true := by kernel_rfl
theorem hodmanlaw7_begun.ok : okF Try.prog 14 0 hodmanlaw7_begun.d = true := by kernel_rfl
theorem hodmanplay_Picks_Num.ok : okF Try.prog 45 2 hodmanplay_Picks_Num.d = true := by kernel_rfl
theorem hodmanplay_Picks_Conf.ok : okF Try.prog 16 2 hodmanplay_Picks_Conf.d = true := by kernel_rfl
theorem hodmanref1_Mul.ok : okF Try.prog 42 2 hodmanref1_Mul.d = true := by kernel_rfl
theorem hodmanref1_Size.ok : okF Try.prog 43 2 hodmanref1_Size.d = true := by kernel_rfl
theorem hodmanlaw7_ClassAll.ok : okF Try.prog 3 4 hodmanlaw7_ClassAll.d = true := by kernel_rfl
end Go.Proofs.D
