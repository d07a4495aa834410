/- Texts of the proof (OK0); no condition. -/
import Derived.Test.YtbgnjpbcdkegoaaTightStagese
import Derived.Test.YtbgnjpbcdkegoaaFb
import Derived.KernelRfl
import Derived.Test.YtbgnjpbcdkegoaaProg
set_option linter.unusedSimpArgs false
set_option linter.unusedVariables false
/- Each function passes the check. -/
set_option maxRecDepth 100000
namespace Go.Proofs.D
open Go
theorem tight_may.ok : okF Try.prog 53 1 tight_may.d = true := by kernel_rfl
theorem conf_Ceil.ok : okF Try.prog 50 2 conf_Ceil.d = true := by kernel_rfl
theorem tight_all.ok : okF Try.prog 36 1 tight_all.d = true := by kernel_rfl
theorem tight_Script.ok : okF Try.prog 18 1 tight_Script.d = true := by kernel_rfl
theorem hodmanref1_Add.ok : okF Try.prog 61 2 hodmanref1_Add.d = true := by kernel_rfl
theorem hodmanref1_Log.ok : okF Try.prog 46 1 hodmanref1_Log.d = true := by kernel_rfl
theorem hodmanlaw21_begun.ok : okF Try.prog 12 0 hodmanlaw21_begun.d = true := by kernel_rfl
theorem hodmanplay_Picks_Num.ok : okF Try.prog 37 2 hodmanplay_Picks_Num.d = true := by kernel_rfl
theorem hodmanref1_Size.ok : okF Try.prog 23 2 hodmanref1_Size.d = true := by kernel_rfl
theorem hodmanref17_Lowest.ok : okF Try.prog 27 3 hodmanref17_Lowest.d = true := by kernel_rfl
theorem hodmanref17_New.ok : okF Try.prog 20 1 hodmanref17_New.d = true := by kernel_rfl
theorem hodmanref17_wrong.ok : okF Try.prog 42 2 hodmanref17_wrong.d = true := by kernel_rfl
theorem hodmanref1_New.ok : okF Try.prog 56 4 hodmanref1_New.d = true := by kernel_rfl
theorem hodmanref1_Product.ok : okF Try.prog 63 3 hodmanref1_Product.d = true := by kernel_rfl
theorem hodmanref8_Met.ok : okF Try.prog 40 3 hodmanref8_Met.d = true := by kernel_rfl
theorem hodmanref8_Count.ok : okF Try.prog 41 1 hodmanref8_Count.d = true := by kernel_rfl
theorem hodmanref8_Byte.ok : okF Try.prog 69 3 hodmanref8_Byte.d = true := by kernel_rfl
theorem hodmanref17_place.ok : okF Try.prog 58 4 hodmanref17_place.d = true := by kernel_rfl
theorem hodmanref8_Zero.ok : okF Try.prog 59 3 hodmanref8_Zero.d = true := by kernel_rfl
theorem hodmanref8_Trim.ok : okF Try.prog 39 2 hodmanref8_Trim.d = true := by kernel_rfl
theorem hodmanref17_of.ok : okF Try.prog 43 3 hodmanref17_of.d = true := by kernel_rfl
theorem hodmanlaw21_TightStages.ok : okF Try.prog 5 1 hodmanlaw21_TightStages.d = true := by kernel_rfl
end Go.Proofs.D
