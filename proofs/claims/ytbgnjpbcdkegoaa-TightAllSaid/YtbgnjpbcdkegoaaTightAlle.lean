/- Texts of the proof (OK0); no condition. -/
import Derived.Test.YtbgnjpbcdkegoaaTightAlld
import Derived.Test.YtbgnjpbcdkegoaaFb
import Derived.KernelRfl
import Derived.Test.YtbgnjpbcdkegoaaProg
set_option linter.unusedSimpArgs false
set_option linter.unusedVariables false
/- Each function passes the check. -/
set_option maxRecDepth 100000
namespace Go.Proofs.D
open Go
theorem tight_may.ok : okF Try.prog 53 1 tight_may.d = true := by kernel_rfl
theorem conf_Ceil.ok : okF Try.prog 50 2 conf_Ceil.d = true := by kernel_rfl
theorem tight_all.ok : okF Try.prog 36 1 tight_all.d = true := by kernel_rfl
theorem tight_Script.ok : okF Try.prog 18 1 tight_Script.d = true := by kernel_rfl
theorem hodmanref1_Add.ok : okF Try.prog 61 2 hodmanref1_Add.d = true := by kernel_rfl
theorem hodmanref1_Log.ok : okF Try.prog 46 1 hodmanref1_Log.d = true := by kernel_rfl
theorem hodmanlaw21_begun.ok : okF Try.prog 12 0 hodmanlaw21_begun.d = true := by kernel_rfl
theorem hodmanplay_Picks_Num.ok : okF Try.prog 37 2 hodmanplay_Picks_Num.d = true := by kernel_rfl
theorem hodmanplay_Picks_Conf.ok : okF Try.prog 14 2 hodmanplay_Picks_Conf.d = true := by kernel_rfl
theorem hodmanref8_Over.ok : okF Try.prog 47 2 hodmanref8_Over.d = true := by kernel_rfl
theorem hodmanref17_put.ok : okF Try.prog 35 2 hodmanref17_put.d = true := by kernel_rfl
theorem hodmanref17_SameOps.ok : okF Try.prog 17 2 hodmanref17_SameOps.d = true := by kernel_rfl
end Go.Proofs.D
