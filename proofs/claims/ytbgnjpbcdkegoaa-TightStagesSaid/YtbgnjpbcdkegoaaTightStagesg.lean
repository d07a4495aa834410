/- Texts of the proof (OK1); no condition. -/
import Derived.Test.YtbgnjpbcdkegoaaTightStagese
import Derived.Test.YtbgnjpbcdkegoaaFb
import Derived.KernelRfl
import Derived.Test.YtbgnjpbcdkegoaaProg
set_option linter.unusedSimpArgs false
set_option linter.unusedVariables false
/- Each function passes the check. -/
set_option maxRecDepth 100000
namespace Go.Proofs.D
open Go
theorem tight_writer_frees.ok : okF Try.prog 54 2 tight_writer_frees.d = true := by kernel_rfl
theorem tight_writer_fills.ok : okF Try.prog 55 2 tight_writer_fills.d = true := by kernel_rfl
theorem tight_Stages.ok : okF Try.prog 16 1 tight_Stages.d = true := by kernel_rfl
theorem hodmanref1_Up.ok : okF Try.prog 44 1 hodmanref1_Up.d = true := by kernel_rfl
theorem hodmanref1_Round.ok : okF Try.prog 45 2 hodmanref1_Round.d = true := by kernel_rfl
theorem hodmanref1_Of.ok : okF Try.prog 24 1 hodmanref1_Of.d = true := by kernel_rfl
theorem hodmanplay_Made.ok : okF Try.prog 13 1 hodmanplay_Made.d = true := by kernel_rfl
theorem hodmanplay_Picks_Raw.ok : okF Try.prog 19 2 hodmanplay_Picks_Raw.d = true := by kernel_rfl
theorem hodmanref8_Over.ok : okF Try.prog 47 2 hodmanref8_Over.d = true := by kernel_rfl
theorem hodmanref17_put.ok : okF Try.prog 35 2 hodmanref17_put.d = true := by kernel_rfl
theorem hodmanref17_Find.ok : okF Try.prog 33 2 hodmanref17_Find.d = true := by kernel_rfl
theorem hodmanref1_Charge.ok : okF Try.prog 26 3 hodmanref1_Charge.d = true := by kernel_rfl
theorem hodmanref1_Mul.ok : okF Try.prog 68 2 hodmanref1_Mul.d = true := by kernel_rfl
theorem hodmanref1_Many.ok : okF Try.prog 57 4 hodmanref1_Many.d = true := by kernel_rfl
theorem hodmanref8_Pages.ok : okF Try.prog 64 3 hodmanref8_Pages.d = true := by kernel_rfl
theorem hodmanref8_Commit.ok : okF Try.prog 65 5 hodmanref8_Commit.d = true := by kernel_rfl
theorem hodmanref8_Fill.ok : okF Try.prog 66 4 hodmanref8_Fill.d = true := by kernel_rfl
theorem hodmanref8_there.ok : okF Try.prog 67 3 hodmanref8_there.d = true := by kernel_rfl
theorem hodmanref17_give.ok : okF Try.prog 38 2 hodmanref17_give.d = true := by kernel_rfl
theorem hodmanref1_Anew.ok : okF Try.prog 60 4 hodmanref1_Anew.d = true := by kernel_rfl
theorem hodmanref17_Do.ok : okF Try.prog 21 2 hodmanref17_Do.d = true := by kernel_rfl
end Go.Proofs.D
