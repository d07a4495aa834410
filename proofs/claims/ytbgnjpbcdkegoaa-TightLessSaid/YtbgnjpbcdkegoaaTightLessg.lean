/- Texts of the proof (OK1); no condition. -/
import Derived.Test.YtbgnjpbcdkegoaaTightLesse
import Derived.Test.YtbgnjpbcdkegoaaFb
import Derived.KernelRfl
import Derived.Test.YtbgnjpbcdkegoaaProg
set_option linter.unusedSimpArgs false
set_option linter.unusedVariables false
/- Each function passes the check. -/
set_option maxRecDepth 100000
namespace Go.Proofs.D
open Go
theorem tight_writer_frees.ok : okF Try.prog 54 2 tight_writer_frees.d = true := by kernel_rfl
theorem tight_writer_fills.ok : okF Try.prog 55 2 tight_writer_fills.d = true := by kernel_rfl
theorem tight_Stages.ok : okF Try.prog 16 1 tight_Stages.d = true := by kernel_rfl
theorem hodmanref1_Up.ok : okF Try.prog 44 1 hodmanref1_Up.d = true := by kernel_rfl
theorem hodmanref1_Round.ok : okF Try.prog 45 2 hodmanref1_Round.d = true := by kernel_rfl
theorem hodmanref1_Of.ok : okF Try.prog 24 1 hodmanref1_Of.d = true := by kernel_rfl
theorem hodmanplay_Made.ok : okF Try.prog 13 1 hodmanplay_Made.d = true := by kernel_rfl
theorem hodmanplay_Picks_Raw.ok : okF Try.prog 19 2 hodmanplay_Picks_Raw.d = true := by kernel_rfl
theorem hodmanref17_Lowest.ok : okF Try.prog 27 3 hodmanref17_Lowest.d = true := by kernel_rfl
theorem hodmanref17_New.ok : okF Try.prog 20 1 hodmanref17_New.d = true := by kernel_rfl
theorem hodmanref17_wrong.ok : okF Try.prog 42 2 hodmanref17_wrong.d = true := by kernel_rfl
theorem hodmanref1_New.ok : okF Try.prog 56 4 hodmanref1_New.d = true := by kernel_rfl
theorem hodmanref1_Product.ok : okF Try.prog 63 3 hodmanref1_Product.d = true := by kernel_rfl
theorem hodmanref8_Met.ok : okF Try.prog 40 3 hodmanref8_Met.d = true := by kernel_rfl
theorem hodmanref8_Count.ok : okF Try.prog 41 1 hodmanref8_Count.d = true := by kernel_rfl
theorem hodmanref8_Byte.ok : okF Try.prog 69 3 hodmanref8_Byte.d = true := by kernel_rfl
theorem hodmanref17_place.ok : okF Try.prog 58 4 hodmanref17_place.d = true := by kernel_rfl
theorem hodmanref8_Zero.ok : okF Try.prog 59 3 hodmanref8_Zero.d = true := by kernel_rfl
theorem hodmanref8_Trim.ok : okF Try.prog 39 2 hodmanref8_Trim.d = true := by kernel_rfl
theorem hodmanref17_of.ok : okF Try.prog 43 3 hodmanref17_of.d = true := by kernel_rfl
theorem hodmanref17_All.ok : okF Try.prog 25 2 hodmanref17_All.d = true := by kernel_rfl
end Go.Proofs.D
