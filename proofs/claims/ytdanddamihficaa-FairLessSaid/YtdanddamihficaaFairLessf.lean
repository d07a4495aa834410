/- Texts of the proof (OK1); no condition. -/
import Derived.Test.YtdanddamihficaaFairLessd
import Derived.Test.YtdanddamihficaaFb
import Derived.KernelRfl
import Derived.Test.YtdanddamihficaaProg
set_option linter.unusedSimpArgs false
set_option linter.unusedVariables false
/- Each function passes the check. -/
set_option maxRecDepth 100000
namespace Go.Proofs.D
open Go
theorem fair_client_asks.ok : okF Try.prog 45 3 fair_client_asks.d = true := by kernel_rfl
theorem fair_client_goes.ok : okF Try.prog 47 2 fair_client_goes.d = true := by kernel_rfl
theorem fair_May.ok : okF Try.prog 17 2 fair_May.d = true := by kernel_rfl
theorem hodmanref1_Add.ok : okF Try.prog 61 2 hodmanref1_Add.d = true := by kernel_rfl
theorem hodmanref1_Log.ok : okF Try.prog 44 1 hodmanref1_Log.d = true := by kernel_rfl
theorem hodmanlaw23_begun.ok : okF Try.prog 12 0 hodmanlaw23_begun.d = true := by kernel_rfl
theorem hodmanplay_Picks_Num.ok : okF Try.prog 28 2 hodmanplay_Picks_Num.d = true := by kernel_rfl
theorem hodmanplay_Picks_Over.ok : okF Try.prog 29 1 hodmanplay_Picks_Over.d = true := by kernel_rfl
theorem hodmanplay_Picks_Conf.ok : okF Try.prog 19 2 hodmanplay_Picks_Conf.d = true := by kernel_rfl
end Go.Proofs.D
