/- Texts of the proof (OK0); no condition. -/
import Derived.Test.YtdanddamihficaaSameAllf
import Derived.Test.YtdanddamihficaaFb
import Derived.KernelRfl
import Derived.Test.YtdanddamihficaaProg
set_option linter.unusedSimpArgs false
set_option linter.unusedVariables false
/- Each function passes the check. -/
set_option maxRecDepth 100000
namespace Go.Proofs.D
open Go
theorem calc_Mul.ok : okF Try.prog 62 2 calc_Mul.d = true := by kernel_rfl
theorem hodmanref1_Up.ok : okF Try.prog 42 1 hodmanref1_Up.d = true := by kernel_rfl
theorem hodmanref1_Round.ok : okF Try.prog 43 2 hodmanref1_Round.d = true := by kernel_rfl
theorem hodmanref1_Of.ok : okF Try.prog 27 1 hodmanref1_Of.d = true := by kernel_rfl
theorem hodmanplay_Picks_Num.ok : okF Try.prog 28 2 hodmanplay_Picks_Num.d = true := by kernel_rfl
theorem hodmanref17_New.ok : okF Try.prog 15 1 hodmanref17_New.d = true := by kernel_rfl
theorem hodmanref17_wrong.ok : okF Try.prog 36 2 hodmanref17_wrong.d = true := by kernel_rfl
theorem hodmanref1_New.ok : okF Try.prog 48 4 hodmanref1_New.d = true := by kernel_rfl
theorem hodmanref1_Product.ok : okF Try.prog 60 3 hodmanref1_Product.d = true := by kernel_rfl
theorem hodmanref8_Over.ok : okF Try.prog 52 2 hodmanref8_Over.d = true := by kernel_rfl
theorem hodmanref17_Lowest.ok : okF Try.prog 63 3 hodmanref17_Lowest.d = true := by kernel_rfl
theorem hodmanref8_Count.ok : okF Try.prog 34 1 hodmanref8_Count.d = true := by kernel_rfl
theorem hodmanref8_Byte.ok : okF Try.prog 73 3 hodmanref8_Byte.d = true := by kernel_rfl
theorem hodmanref17_put.ok : okF Try.prog 67 2 hodmanref17_put.d = true := by kernel_rfl
theorem hodmanref8_there.ok : okF Try.prog 68 3 hodmanref8_there.d = true := by kernel_rfl
theorem hodmanref17_give.ok : okF Try.prog 31 2 hodmanref17_give.d = true := by kernel_rfl
theorem hodmanref17_Find.ok : okF Try.prog 35 2 hodmanref17_Find.d = true := by kernel_rfl
theorem hodmanref17_of.ok : okF Try.prog 37 3 hodmanref17_of.d = true := by kernel_rfl
theorem hodmanref17_All.ok : okF Try.prog 22 2 hodmanref17_All.d = true := by kernel_rfl
theorem calc_Up.ok : okF Try.prog 75 1 calc_Up.d = true := by kernel_rfl
theorem same_reader_charge.ok : okF Try.prog 56 2 same_reader_charge.d = true := by kernel_rfl
theorem slices_Index_int_int.ok : okF Try.prog 76 2 slices_Index_int_int.d = true := by kernel_rfl
theorem same_reader_knows.ok : okF Try.prog 58 3 same_reader_knows.d = true := by kernel_rfl
theorem same_Plain.ok : okF Try.prog 24 3 same_Plain.d = true := by kernel_rfl
theorem same_Same.ok : okF Try.prog 26 2 same_Same.d = true := by kernel_rfl
theorem hodmanref1_Size.ok : okF Try.prog 69 2 hodmanref1_Size.d = true := by kernel_rfl
theorem hodmanplay_Picks_Block.ok : okF Try.prog 55 2 hodmanplay_Picks_Block.d = true := by kernel_rfl
theorem hodmanplay_Picks_Ops.ok : okF Try.prog 21 3 hodmanplay_Picks_Ops.d = true := by kernel_rfl
theorem hodmanref17_charged.ok : okF Try.prog 40 2 hodmanref17_charged.d = true := by kernel_rfl
theorem hodmanlaw24_SameAll.ok : okF Try.prog 6 5 hodmanlaw24_SameAll.d = true := by kernel_rfl
end Go.Proofs.D
