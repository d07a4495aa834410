/- Texts of the proof (OK1); no condition. -/
import Derived.Test.YtbgnjpbcdkegoaaCeilHoldsd
import Derived.Test.YtbgnjpbcdkegoaaFb
import Derived.KernelRfl
import Derived.Test.YtbgnjpbcdkegoaaProg
set_option linter.unusedSimpArgs false
set_option linter.unusedVariables false
/- Each function passes the check. -/
set_option maxRecDepth 100000
namespace Go.Proofs.D
open Go
theorem hodmanref1_Up.ok : okF Try.prog 44 1 hodmanref1_Up.d = true := by kernel_rfl
theorem hodmanref1_Round.ok : okF Try.prog 45 2 hodmanref1_Round.d = true := by kernel_rfl
theorem hodmanref1_Of.ok : okF Try.prog 24 1 hodmanref1_Of.d = true := by kernel_rfl
theorem hodmanplay_Picks_Num.ok : okF Try.prog 37 2 hodmanplay_Picks_Num.d = true := by kernel_rfl
theorem hodmanplay_Picks_Conf.ok : okF Try.prog 14 2 hodmanplay_Picks_Conf.d = true := by kernel_rfl
theorem hodmanref8_Over.ok : okF Try.prog 47 2 hodmanref8_Over.d = true := by kernel_rfl
theorem hodmanref1_Ceil.ok : okF Try.prog 22 2 hodmanref1_Ceil.d = true := by kernel_rfl
theorem ceil_Least.ok : okF Try.prog 29 3 ceil_Least.d = true := by kernel_rfl
theorem conf_Shift.ok : okF Try.prog 49 2 conf_Shift.d = true := by kernel_rfl
theorem hodmanlaw20_begun.ok : okF Try.prog 28 0 hodmanlaw20_begun.d = true := by kernel_rfl
end Go.Proofs.D
