/- Texts of the proof (OK1); no condition. -/
import Derived.Test.YtdanddamihficaaSameAllf
import Derived.Test.YtdanddamihficaaFb
import Derived.KernelRfl
import Derived.Test.YtdanddamihficaaProg
set_option linter.unusedSimpArgs false
set_option linter.unusedVariables false
/- Each function passes the check. -/
set_option maxRecDepth 100000
namespace Go.Proofs.D
open Go
theorem class_Product.ok : okF Try.prog 46 3 class_Product.d = true := by kernel_rfl
theorem hodmanref1_Add.ok : okF Try.prog 61 2 hodmanref1_Add.d = true := by kernel_rfl
theorem hodmanref1_Log.ok : okF Try.prog 44 1 hodmanref1_Log.d = true := by kernel_rfl
theorem hodmanplay_Made.ok : okF Try.prog 13 1 hodmanplay_Made.d = true := by kernel_rfl
theorem hodmanplay_Picks_Raw.ok : okF Try.prog 14 2 hodmanplay_Picks_Raw.d = true := by kernel_rfl
theorem hodmanplay_Picks_Over.ok : okF Try.prog 29 1 hodmanplay_Picks_Over.d = true := by kernel_rfl
theorem hodmanref1_Charge.ok : okF Try.prog 59 3 hodmanref1_Charge.d = true := by kernel_rfl
theorem hodmanref1_Mul.ok : okF Try.prog 72 2 hodmanref1_Mul.d = true := by kernel_rfl
theorem hodmanref1_Many.ok : okF Try.prog 49 4 hodmanref1_Many.d = true := by kernel_rfl
theorem hodmanref8_Met.ok : okF Try.prog 33 3 hodmanref8_Met.d = true := by kernel_rfl
theorem hodmanref8_Pages.ok : okF Try.prog 64 3 hodmanref8_Pages.d = true := by kernel_rfl
theorem hodmanref8_Commit.ok : okF Try.prog 65 5 hodmanref8_Commit.d = true := by kernel_rfl
theorem hodmanref8_Fill.ok : okF Try.prog 66 4 hodmanref8_Fill.d = true := by kernel_rfl
theorem hodmanref17_place.ok : okF Try.prog 50 4 hodmanref17_place.d = true := by kernel_rfl
theorem hodmanref8_Zero.ok : okF Try.prog 51 3 hodmanref8_Zero.d = true := by kernel_rfl
theorem hodmanref8_Trim.ok : okF Try.prog 32 2 hodmanref8_Trim.d = true := by kernel_rfl
theorem hodmanref1_Anew.ok : okF Try.prog 53 4 hodmanref1_Anew.d = true := by kernel_rfl
theorem hodmanref17_Do.ok : okF Try.prog 18 2 hodmanref17_Do.d = true := by kernel_rfl
theorem calc_Log.ok : okF Try.prog 74 1 calc_Log.d = true := by kernel_rfl
theorem class_Charge.ok : okF Try.prog 70 3 class_Charge.d = true := by kernel_rfl
theorem same_moved.ok : okF Try.prog 57 2 same_moved.d = true := by kernel_rfl
theorem slices_Contains_int_int.ok : okF Try.prog 71 2 slices_Contains_int_int.d = true := by kernel_rfl
theorem same_reader_does.ok : okF Try.prog 39 3 same_reader_does.d = true := by kernel_rfl
theorem api_Ans.ok : okF Try.prog 41 2 api_Ans.d = true := by kernel_rfl
theorem hodmanlaw24_begun.ok : okF Try.prog 20 0 hodmanlaw24_begun.d = true := by kernel_rfl
theorem hodmanplay_Picks_Size.ok : okF Try.prog 54 2 hodmanplay_Picks_Size.d = true := by kernel_rfl
theorem hodmanplay_Picks_Op.ok : okF Try.prog 38 3 hodmanplay_Picks_Op.d = true := by kernel_rfl
theorem hodmanref17_SameAns.ok : okF Try.prog 23 2 hodmanref17_SameAns.d = true := by kernel_rfl
theorem hodmanref17_Plain.ok : okF Try.prog 25 3 hodmanref17_Plain.d = true := by kernel_rfl
end Go.Proofs.D
