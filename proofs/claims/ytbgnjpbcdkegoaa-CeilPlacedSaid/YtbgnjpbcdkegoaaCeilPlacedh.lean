/- Texts of the proof (OK1); no condition. -/
import Derived.Test.YtbgnjpbcdkegoaaCeilPlacedf
import Derived.Test.YtbgnjpbcdkegoaaFb
import Derived.KernelRfl
import Derived.Test.YtbgnjpbcdkegoaaProg
set_option linter.unusedSimpArgs false
set_option linter.unusedVariables false
/- Each function passes the check. -/
set_option maxRecDepth 100000
namespace Go.Proofs.D
open Go
theorem hodmanref1_Up.ok : okF Try.prog 44 1 hodmanref1_Up.d = true := by kernel_rfl
theorem hodmanref1_Round.ok : okF Try.prog 45 2 hodmanref1_Round.d = true := by kernel_rfl
theorem hodmanref1_Of.ok : okF Try.prog 24 1 hodmanref1_Of.d = true := by kernel_rfl
theorem hodmanplay_Picks_Num.ok : okF Try.prog 37 2 hodmanplay_Picks_Num.d = true := by kernel_rfl
theorem hodmanref1_Size.ok : okF Try.prog 23 2 hodmanref1_Size.d = true := by kernel_rfl
theorem hodmanref17_Lowest.ok : okF Try.prog 27 3 hodmanref17_Lowest.d = true := by kernel_rfl
theorem hodmanref17_New.ok : okF Try.prog 20 1 hodmanref17_New.d = true := by kernel_rfl
theorem hodmanref17_wrong.ok : okF Try.prog 42 2 hodmanref17_wrong.d = true := by kernel_rfl
theorem hodmanref1_New.ok : okF Try.prog 56 4 hodmanref1_New.d = true := by kernel_rfl
theorem hodmanref1_Product.ok : okF Try.prog 63 3 hodmanref1_Product.d = true := by kernel_rfl
theorem hodmanref8_Met.ok : okF Try.prog 40 3 hodmanref8_Met.d = true := by kernel_rfl
theorem hodmanref8_Count.ok : okF Try.prog 41 1 hodmanref8_Count.d = true := by kernel_rfl
theorem hodmanref8_Byte.ok : okF Try.prog 69 3 hodmanref8_Byte.d = true := by kernel_rfl
theorem hodmanref17_place.ok : okF Try.prog 58 4 hodmanref17_place.d = true := by kernel_rfl
theorem hodmanref8_Zero.ok : okF Try.prog 59 3 hodmanref8_Zero.d = true := by kernel_rfl
theorem hodmanref8_Trim.ok : okF Try.prog 39 2 hodmanref8_Trim.d = true := by kernel_rfl
theorem hodmanref17_of.ok : okF Try.prog 43 3 hodmanref17_of.d = true := by kernel_rfl
theorem ceil_of.ok : okF Try.prog 48 3 ceil_of.d = true := by kernel_rfl
theorem calc_Log.ok : okF Try.prog 62 1 calc_Log.d = true := by kernel_rfl
theorem ceil_Within.ok : okF Try.prog 30 2 ceil_Within.d = true := by kernel_rfl
theorem hodmanplay_Picks_Over.ok : okF Try.prog 31 1 hodmanplay_Picks_Over.d = true := by kernel_rfl
theorem hodmanplay_Picks_Block.ok : okF Try.prog 52 2 hodmanplay_Picks_Block.d = true := by kernel_rfl
theorem hodmanref1_Shift.ok : okF Try.prog 34 2 hodmanref1_Shift.d = true := by kernel_rfl
end Go.Proofs.D
