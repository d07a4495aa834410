/- Texts of the proof (OK0); no condition. -/
import Derived.Test.YtbgnjpbcdkegoaaTightFormsc
import Derived.Test.YtbgnjpbcdkegoaaFb
import Derived.KernelRfl
import Derived.Test.YtbgnjpbcdkegoaaProg
set_option linter.unusedSimpArgs false
set_option linter.unusedVariables false
/- Each function passes the check. -/
set_option maxRecDepth 100000
namespace Go.Proofs.D
open Go
theorem tight_may.ok : okF Try.prog 53 1 tight_may.d = true := by kernel_rfl
theorem conf_Ceil.ok : okF Try.prog 50 2 conf_Ceil.d = true := by kernel_rfl
theorem tight_all.ok : okF Try.prog 36 1 tight_all.d = true := by kernel_rfl
theorem tight_Script.ok : okF Try.prog 18 1 tight_Script.d = true := by kernel_rfl
theorem hodmanref1_Add.ok : okF Try.prog 61 2 hodmanref1_Add.d = true := by kernel_rfl
theorem hodmanref1_Log.ok : okF Try.prog 46 1 hodmanref1_Log.d = true := by kernel_rfl
theorem hodmanlaw21_begun.ok : okF Try.prog 12 0 hodmanlaw21_begun.d = true := by kernel_rfl
theorem hodmanlaw21_TightForms.ok : okF Try.prog 6 0 hodmanlaw21_TightForms.d = true := by kernel_rfl
end Go.Proofs.D
