/- Texts of the proof (OK0); no condition. -/
import Derived.Test.YtdanddamihficaaFairLessd
import Derived.Test.YtdanddamihficaaFb
import Derived.KernelRfl
import Derived.Test.YtdanddamihficaaProg
set_option linter.unusedSimpArgs false
set_option linter.unusedVariables false
/- Each function passes the check. -/
set_option maxRecDepth 100000
namespace Go.Proofs.D
open Go
theorem calc_Mul.ok : okF Try.prog 62 2 calc_Mul.d = true := by kernel_rfl
theorem class_Product.ok : okF Try.prog 46 3 class_Product.d = true := by kernel_rfl
theorem fair_client_does.ok : okF Try.prog 30 3 fair_client_does.d = true := by kernel_rfl
theorem hodmanref1_Up.ok : okF Try.prog 42 1 hodmanref1_Up.d = true := by kernel_rfl
theorem hodmanref1_Round.ok : okF Try.prog 43 2 hodmanref1_Round.d = true := by kernel_rfl
theorem hodmanref1_Of.ok : okF Try.prog 27 1 hodmanref1_Of.d = true := by kernel_rfl
theorem hodmanplay_Made.ok : okF Try.prog 13 1 hodmanplay_Made.d = true := by kernel_rfl
theorem hodmanplay_Picks_Raw.ok : okF Try.prog 14 2 hodmanplay_Picks_Raw.d = true := by kernel_rfl
theorem hodmanlaw23_Client.ok : okF Try.prog 16 3 hodmanlaw23_Client.d = true := by kernel_rfl
theorem hodmanlaw23_FairLess.ok : okF Try.prog 4 3 hodmanlaw23_FairLess.d = true := by kernel_rfl
end Go.Proofs.D
