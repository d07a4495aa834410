/- Texts of the proof (OK0); no condition. -/
import Derived.Test.YtogdeblppihbnaaTopWilde
import Derived.Test.YtogdeblppihbnaaFb
import Derived.KernelRfl
import Derived.Test.YtogdeblppihbnaaProg
set_option linter.unusedSimpArgs false
set_option linter.unusedVariables false
/- Each function passes the check. -/
set_option maxRecDepth 100000
namespace Go.Proofs.D
open Go
theorem wire_fields.ok : okF Try.prog 69 1 wire_fields.d = true := by kernel_rfl
theorem wire_one.ok : okF Try.prog 68 2 wire_one.d = true := by kernel_rfl
theorem play_Decode.ok : okF Try.prog 41 1 play_Decode.d = true := by kernel_rfl
theorem calc_Up.ok : okF Try.prog 36 1 calc_Up.d = true := by kernel_rfl
theorem calc_Round.ok : okF Try.prog 37 2 calc_Round.d = true := by kernel_rfl
theorem conf_Of.ok : okF Try.prog 15 1 conf_Of.d = true := by kernel_rfl
theorem tree_level.ok : okF Try.prog 71 1 tree_level.d = true := by kernel_rfl
theorem slots_New.ok : okF Try.prog 44 2 slots_New.d = true := by kernel_rfl
theorem heap_New.ok : okF Try.prog 9 1 heap_New.d = true := by kernel_rfl
theorem admit_New.ok : okF Try.prog 46 4 admit_New.d = true := by kernel_rfl
theorem pin_Pages.ok : okF Try.prog 74 3 pin_Pages.d = true := by kernel_rfl
theorem heap_Heap_back.ok : okF Try.prog 65 3 heap_Heap_back.d = true := by kernel_rfl
theorem class_Class.ok : okF Try.prog 72 2 class_Class.d = true := by kernel_rfl
theorem slices_Clone_Suint64_uint64.ok : okF Try.prog 104 1 slices_Clone_Suint64_uint64.d = true := by kernel_rfl
theorem tree_at.ok : okF Try.prog 95 3 tree_at.d = true := by kernel_rfl
theorem tree_sums.ok : okF Try.prog 97 4 tree_sums.d = true := by kernel_rfl
theorem slots_twin.ok : okF Try.prog 86 1 slots_twin.d = true := by kernel_rfl
theorem slots_taken.ok : okF Try.prog 88 2 slots_taken.d = true := by kernel_rfl
theorem slices_Clone_Sapi_Mark_api_Mark.ok : okF Try.prog 83 1 slices_Clone_Sapi_Mark_api_Mark.d = true := by kernel_rfl
theorem word_LowOne.ok : okF Try.prog 105 1 word_LowOne.d = true := by kernel_rfl
theorem tree_FirstZero.ok : okF Try.prog 89 2 tree_FirstZero.d = true := by kernel_rfl
theorem api_Mark_int.ok : okF Try.prog 91 3 api_Mark_int.d = true := by kernel_rfl
theorem place_Place.ok : okF Try.prog 73 2 place_Place.d = true := by kernel_rfl
theorem commit_Trim.ok : okF Try.prog 30 2 commit_Trim.d = true := by kernel_rfl
theorem commit_Commit.ok : okF Try.prog 75 5 commit_Commit.d = true := by kernel_rfl
theorem heap_Heap_puts.ok : okF Try.prog 61 3 heap_Heap_puts.d = true := by kernel_rfl
theorem heap_Heap_aligned.ok : okF Try.prog 27 3 heap_Heap_aligned.d = true := by kernel_rfl
theorem class_Product.ok : okF Try.prog 49 3 class_Product.d = true := by kernel_rfl
theorem heap_Heap_calloc.ok : okF Try.prog 28 3 heap_Heap_calloc.d = true := by kernel_rfl
theorem side_Take.ok : okF Try.prog 77 2 side_Take.d = true := by kernel_rfl
theorem heap_Heap_gone.ok : okF Try.prog 51 2 heap_Heap_gone.d = true := by kernel_rfl
theorem slices_Clone_byte_byte.ok : okF Try.prog 64 1 slices_Clone_byte_byte.d = true := by kernel_rfl
theorem heap_Heap_block.ok : okF Try.prog 29 2 heap_Heap_block.d = true := by kernel_rfl
theorem run_Heap.ok : okF Try.prog 42 2 run_Heap.d = true := by kernel_rfl
theorem wire_put.ok : okF Try.prog 58 1 wire_put.d = true := by kernel_rfl
theorem play_Encode.ok : okF Try.prog 22 2 play_Encode.d = true := by kernel_rfl
theorem conf_Ceil.ok : okF Try.prog 20 2 conf_Ceil.d = true := by kernel_rfl
theorem heap_Heap_Blocks.ok : okF Try.prog 17 1 heap_Heap_Blocks.d = true := by kernel_rfl
theorem side_find_1.ok : okF Try.prog 92 2 side_find_1.d = true := by kernel_rfl
theorem cmp_isNaN_int.ok : okF Try.prog 102 1 cmp_isNaN_int.d = true := by kernel_rfl
end Go.Proofs.D
