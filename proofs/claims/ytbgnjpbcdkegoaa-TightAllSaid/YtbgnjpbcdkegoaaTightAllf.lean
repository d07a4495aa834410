/- Texts of the proof (OK1); no condition. -/
import Derived.Test.YtbgnjpbcdkegoaaTightAlld
import Derived.Test.YtbgnjpbcdkegoaaFb
import Derived.KernelRfl
import Derived.Test.YtbgnjpbcdkegoaaProg
set_option linter.unusedSimpArgs false
set_option linter.unusedVariables false
/- Each function passes the check. -/
set_option maxRecDepth 100000
namespace Go.Proofs.D
open Go
theorem tight_writer_frees.ok : okF Try.prog 54 2 tight_writer_frees.d = true := by kernel_rfl
theorem tight_writer_fills.ok : okF Try.prog 55 2 tight_writer_fills.d = true := by kernel_rfl
theorem tight_Stages.ok : okF Try.prog 16 1 tight_Stages.d = true := by kernel_rfl
theorem hodmanref1_Up.ok : okF Try.prog 44 1 hodmanref1_Up.d = true := by kernel_rfl
theorem hodmanref1_Round.ok : okF Try.prog 45 2 hodmanref1_Round.d = true := by kernel_rfl
theorem hodmanref1_Of.ok : okF Try.prog 24 1 hodmanref1_Of.d = true := by kernel_rfl
theorem hodmanplay_Made.ok : okF Try.prog 13 1 hodmanplay_Made.d = true := by kernel_rfl
theorem hodmanplay_Picks_Raw.ok : okF Try.prog 19 2 hodmanplay_Picks_Raw.d = true := by kernel_rfl
theorem hodmanref1_Size.ok : okF Try.prog 23 2 hodmanref1_Size.d = true := by kernel_rfl
theorem hodmanref17_Lowest.ok : okF Try.prog 27 3 hodmanref17_Lowest.d = true := by kernel_rfl
theorem hodmanref17_Script.ok : okF Try.prog 15 1 hodmanref17_Script.d = true := by kernel_rfl
theorem hodmanlaw21_TightAll.ok : okF Try.prog 3 1 hodmanlaw21_TightAll.d = true := by kernel_rfl
end Go.Proofs.D
