/- Texts of the proof (OK0); no condition. -/
import Derived.Test.YtbgnjpbcdkegoaaTightLesse
import Derived.Test.YtbgnjpbcdkegoaaFb
import Derived.KernelRfl
import Derived.Test.YtbgnjpbcdkegoaaProg
set_option linter.unusedSimpArgs false
set_option linter.unusedVariables false
/- Each function passes the check. -/
set_option maxRecDepth 100000
namespace Go.Proofs.D
open Go
theorem tight_may.ok : okF Try.prog 53 1 tight_may.d = true := by kernel_rfl
theorem conf_Ceil.ok : okF Try.prog 50 2 conf_Ceil.d = true := by kernel_rfl
theorem tight_all.ok : okF Try.prog 36 1 tight_all.d = true := by kernel_rfl
theorem tight_Script.ok : okF Try.prog 18 1 tight_Script.d = true := by kernel_rfl
theorem hodmanref1_Add.ok : okF Try.prog 61 2 hodmanref1_Add.d = true := by kernel_rfl
theorem hodmanref1_Log.ok : okF Try.prog 46 1 hodmanref1_Log.d = true := by kernel_rfl
theorem hodmanlaw21_begun.ok : okF Try.prog 12 0 hodmanlaw21_begun.d = true := by kernel_rfl
theorem hodmanplay_Picks_Num.ok : okF Try.prog 37 2 hodmanplay_Picks_Num.d = true := by kernel_rfl
theorem hodmanref8_Over.ok : okF Try.prog 47 2 hodmanref8_Over.d = true := by kernel_rfl
theorem hodmanref17_put.ok : okF Try.prog 35 2 hodmanref17_put.d = true := by kernel_rfl
theorem hodmanref17_Find.ok : okF Try.prog 33 2 hodmanref17_Find.d = true := by kernel_rfl
theorem hodmanref1_Charge.ok : okF Try.prog 26 3 hodmanref1_Charge.d = true := by kernel_rfl
theorem hodmanref1_Mul.ok : okF Try.prog 68 2 hodmanref1_Mul.d = true := by kernel_rfl
theorem hodmanref1_Many.ok : okF Try.prog 57 4 hodmanref1_Many.d = true := by kernel_rfl
theorem hodmanref8_Pages.ok : okF Try.prog 64 3 hodmanref8_Pages.d = true := by kernel_rfl
theorem hodmanref8_Commit.ok : okF Try.prog 65 5 hodmanref8_Commit.d = true := by kernel_rfl
theorem hodmanref8_Fill.ok : okF Try.prog 66 4 hodmanref8_Fill.d = true := by kernel_rfl
theorem hodmanref8_there.ok : okF Try.prog 67 3 hodmanref8_there.d = true := by kernel_rfl
theorem hodmanref17_give.ok : okF Try.prog 38 2 hodmanref17_give.d = true := by kernel_rfl
theorem hodmanref1_Anew.ok : okF Try.prog 60 4 hodmanref1_Anew.d = true := by kernel_rfl
theorem hodmanref17_Do.ok : okF Try.prog 21 2 hodmanref17_Do.d = true := by kernel_rfl
theorem hodmanlaw21_TightLess.ok : okF Try.prog 7 1 hodmanlaw21_TightLess.d = true := by kernel_rfl
end Go.Proofs.D
