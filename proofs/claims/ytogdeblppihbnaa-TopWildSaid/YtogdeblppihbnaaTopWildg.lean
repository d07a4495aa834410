/- Texts of the proof (OK1); no condition. -/
import Derived.Test.YtogdeblppihbnaaTopWilde
import Derived.Test.YtogdeblppihbnaaFb
import Derived.KernelRfl
import Derived.Test.YtogdeblppihbnaaProg
set_option linter.unusedSimpArgs false
set_option linter.unusedVariables false
/- Each function passes the check. -/
set_option maxRecDepth 100000
namespace Go.Proofs.D
open Go
theorem wire_field.ok : okF Try.prog 70 2 wire_field.d = true := by kernel_rfl
theorem wire_Take.ok : okF Try.prog 57 1 wire_Take.d = true := by kernel_rfl
theorem conf_within.ok : okF Try.prog 35 1 conf_within.d = true := by kernel_rfl
theorem calc_Add.ok : okF Try.prog 53 2 calc_Add.d = true := by kernel_rfl
theorem calc_Log.ok : okF Try.prog 38 1 calc_Log.d = true := by kernel_rfl
theorem word_Mask.ok : okF Try.prog 80 2 word_Mask.d = true := by kernel_rfl
theorem tree_New.ok : okF Try.prog 59 1 tree_New.d = true := by kernel_rfl
theorem place_New.ok : okF Try.prog 24 3 place_New.d = true := by kernel_rfl
theorem class_Charge.ok : okF Try.prog 60 3 class_Charge.d = true := by kernel_rfl
theorem heap_Heap_pages.ok : okF Try.prog 31 1 heap_Heap_pages.d = true := by kernel_rfl
theorem heap_Heap_meets.ok : okF Try.prog 67 3 heap_Heap_meets.d = true := by kernel_rfl
theorem conf_Shift.ok : okF Try.prog 39 2 conf_Shift.d = true := by kernel_rfl
theorem slices_Clone_SSuint64_Suint64.ok : okF Try.prog 103 1 slices_Clone_SSuint64_Suint64.d = true := by kernel_rfl
theorem tree_twin.ok : okF Try.prog 94 1 tree_twin.d = true := by kernel_rfl
theorem tree_put.ok : okF Try.prog 96 4 tree_put.d = true := by kernel_rfl
theorem tree_Set.ok : okF Try.prog 87 4 tree_Set.d = true := by kernel_rfl
theorem tree_Has.ok : okF Try.prog 98 2 tree_Has.d = true := by kernel_rfl
theorem slots_Use.ok : okF Try.prog 79 4 slots_Use.d = true := by kernel_rfl
theorem place_twin.ok : okF Try.prog 78 1 place_twin.d = true := by kernel_rfl
theorem word_LowZero.ok : okF Try.prog 99 1 word_LowZero.d = true := by kernel_rfl
theorem slots_Lowest.ok : okF Try.prog 81 2 slots_Lowest.d = true := by kernel_rfl
theorem side_find.ok : okF Try.prog 84 2 side_find.d = true := by kernel_rfl
theorem side_Put.ok : okF Try.prog 82 2 side_Put.d = true := by kernel_rfl
theorem slices_Clone_bool_bool.ok : okF Try.prog 52 1 slices_Clone_bool_bool.d = true := by kernel_rfl
theorem pin_Count.ok : okF Try.prog 32 1 pin_Count.d = true := by kernel_rfl
theorem junk_Byte.ok : okF Try.prog 76 3 junk_Byte.d = true := by kernel_rfl
theorem heap_Heap_asks.ok : okF Try.prog 47 4 heap_Heap_asks.d = true := by kernel_rfl
theorem calc_Mul.ok : okF Try.prog 62 2 calc_Mul.d = true := by kernel_rfl
theorem admit_Many.ok : okF Try.prog 48 4 admit_Many.d = true := by kernel_rfl
theorem place_Release.ok : okF Try.prog 66 2 place_Release.d = true := by kernel_rfl
theorem admit_Anew.ok : okF Try.prog 63 4 admit_Anew.d = true := by kernel_rfl
theorem heap_Heap_realloc.ok : okF Try.prog 50 3 heap_Heap_realloc.d = true := by kernel_rfl
theorem heap_Heap_Do.ok : okF Try.prog 13 2 heap_Heap_Do.d = true := by kernel_rfl
theorem play_Run.ok : okF Try.prog 21 1 play_Run.d = true := by kernel_rfl
theorem wire_Put.ok : okF Try.prog 43 1 wire_Put.d = true := by kernel_rfl
theorem hodmantop_begun.ok : okF Try.prog 6 0 hodmantop_begun.d = true := by kernel_rfl
theorem ceil_Within.ok : okF Try.prog 16 2 ceil_Within.d = true := by kernel_rfl
theorem hodmantop_TopWild.ok : okF Try.prog 4 2 hodmantop_TopWild.d = true := by kernel_rfl
theorem cmp_Compare_int.ok : okF Try.prog 93 2 cmp_Compare_int.d = true := by kernel_rfl
end Go.Proofs.D
