/- Texts of the proof (OK1); no condition. -/
import Derived.Test.YtbgnjpbcdkegoaaTightFormsc
import Derived.Test.YtbgnjpbcdkegoaaFb
import Derived.KernelRfl
import Derived.Test.YtbgnjpbcdkegoaaProg
set_option linter.unusedSimpArgs false
set_option linter.unusedVariables false
/- Each function passes the check. -/
set_option maxRecDepth 100000
namespace Go.Proofs.D
open Go
theorem tight_writer_frees.ok : okF Try.prog 54 2 tight_writer_frees.d = true := by kernel_rfl
theorem tight_writer_fills.ok : okF Try.prog 55 2 tight_writer_fills.d = true := by kernel_rfl
theorem tight_Stages.ok : okF Try.prog 16 1 tight_Stages.d = true := by kernel_rfl
theorem hodmanref1_Up.ok : okF Try.prog 44 1 hodmanref1_Up.d = true := by kernel_rfl
theorem hodmanref1_Round.ok : okF Try.prog 45 2 hodmanref1_Round.d = true := by kernel_rfl
theorem hodmanref1_Of.ok : okF Try.prog 24 1 hodmanref1_Of.d = true := by kernel_rfl
theorem hodmanref17_SameOps.ok : okF Try.prog 17 2 hodmanref17_SameOps.d = true := by kernel_rfl
end Go.Proofs.D
