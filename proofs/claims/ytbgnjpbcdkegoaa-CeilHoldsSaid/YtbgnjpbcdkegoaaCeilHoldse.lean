/- Texts of the proof (OK0); no condition. -/
import Derived.Test.YtbgnjpbcdkegoaaCeilHoldsd
import Derived.Test.YtbgnjpbcdkegoaaFb
import Derived.KernelRfl
import Derived.Test.YtbgnjpbcdkegoaaProg
set_option linter.unusedSimpArgs false
set_option linter.unusedVariables false
/- Each function passes the check. -/
set_option maxRecDepth 100000
namespace Go.Proofs.D
open Go
theorem conf_Ceil.ok : okF Try.prog 50 2 conf_Ceil.d = true := by kernel_rfl
theorem hodmanref1_Add.ok : okF Try.prog 61 2 hodmanref1_Add.d = true := by kernel_rfl
theorem hodmanref1_Log.ok : okF Try.prog 46 1 hodmanref1_Log.d = true := by kernel_rfl
theorem hodmanplay_Made.ok : okF Try.prog 13 1 hodmanplay_Made.d = true := by kernel_rfl
theorem hodmanplay_Picks_Raw.ok : okF Try.prog 19 2 hodmanplay_Picks_Raw.d = true := by kernel_rfl
theorem hodmanref1_Size.ok : okF Try.prog 23 2 hodmanref1_Size.d = true := by kernel_rfl
theorem hodmanref17_Lowest.ok : okF Try.prog 27 3 hodmanref17_Lowest.d = true := by kernel_rfl
theorem ceil_of.ok : okF Try.prog 48 3 ceil_of.d = true := by kernel_rfl
theorem calc_Log.ok : okF Try.prog 62 1 calc_Log.d = true := by kernel_rfl
theorem ceil_Within.ok : okF Try.prog 30 2 ceil_Within.d = true := by kernel_rfl
theorem hodmanlaw20_CeilHolds.ok : okF Try.prog 11 3 hodmanlaw20_CeilHolds.d = true := by kernel_rfl
end Go.Proofs.D
