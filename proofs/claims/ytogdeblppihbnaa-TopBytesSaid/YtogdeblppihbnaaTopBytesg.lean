/- Texts of the proof (OK0); no condition. -/
import Derived.Test.YtogdeblppihbnaaTopBytesf
import Derived.Test.YtogdeblppihbnaaTopBytesFb
import Derived.KernelRfl
import Derived.Test.YtogdeblppihbnaaProg
set_option linter.unusedSimpArgs false
set_option linter.unusedVariables false
/- Each function passes the check. -/
set_option maxRecDepth 100000
namespace Go.Proofs.D
open Go
theorem F41.ok:okF Try.prog 69 1 F41.d=true:=by kernel_rfl
theorem F72.ok:okF Try.prog 68 2 F72.d=true:=by kernel_rfl
theorem F42.ok:okF Try.prog 41 1 F42.d=true:=by kernel_rfl
theorem F86.ok:okF Try.prog 36 1 F86.d=true:=by kernel_rfl
theorem F52.ok:okF Try.prog 37 2 F52.d=true:=by kernel_rfl
theorem F87.ok:okF Try.prog 15 1 F87.d=true:=by kernel_rfl
theorem F53.ok:okF Try.prog 71 1 F53.d=true:=by kernel_rfl
theorem F61.ok:okF Try.prog 44 2 F61.d=true:=by kernel_rfl
theorem F76.ok:okF Try.prog 9 1 F76.d=true:=by kernel_rfl
theorem F63.ok:okF Try.prog 46 4 F63.d=true:=by kernel_rfl
theorem F64.ok:okF Try.prog 74 3 F64.d=true:=by kernel_rfl
theorem F23.ok:okF Try.prog 65 3 F23.d=true:=by kernel_rfl
theorem F44.ok:okF Try.prog 72 2 F44.d=true:=by kernel_rfl
theorem F4.ok:okF Try.prog 104 1 F4.d=true:=by kernel_rfl
theorem F88.ok:okF Try.prog 95 3 F88.d=true:=by kernel_rfl
theorem F66.ok:okF Try.prog 97 4 F66.d=true:=by kernel_rfl
theorem F55.ok:okF Try.prog 86 1 F55.d=true:=by kernel_rfl
theorem F45.ok:okF Try.prog 88 2 F45.d=true:=by kernel_rfl
theorem F2.ok:okF Try.prog 83 1 F2.d=true:=by kernel_rfl
theorem F46.ok:okF Try.prog 105 1 F46.d=true:=by kernel_rfl
theorem F24.ok:okF Try.prog 89 2 F24.d=true:=by kernel_rfl
theorem F39.ok:okF Try.prog 91 3 F39.d=true:=by kernel_rfl
theorem F47.ok:okF Try.prog 73 2 F47.d=true:=by kernel_rfl
theorem F48.ok:okF Try.prog 30 2 F48.d=true:=by kernel_rfl
theorem F31.ok:okF Try.prog 75 5 F31.d=true:=by kernel_rfl
theorem F25.ok:okF Try.prog 61 3 F25.d=true:=by kernel_rfl
theorem F12.ok:okF Try.prog 27 3 F12.d=true:=by kernel_rfl
theorem F32.ok:okF Try.prog 49 3 F32.d=true:=by kernel_rfl
theorem F15.ok:okF Try.prog 28 3 F15.d=true:=by kernel_rfl
theorem F71.ok:okF Try.prog 77 2 F71.d=true:=by kernel_rfl
theorem F27.ok:okF Try.prog 51 2 F27.d=true:=by kernel_rfl
theorem F6.ok:okF Try.prog 64 1 F6.d=true:=by kernel_rfl
theorem F19.ok:okF Try.prog 29 2 F19.d=true:=by kernel_rfl
theorem F82.ok:okF Try.prog 42 2 F82.d=true:=by kernel_rfl
theorem F84.ok:okF Try.prog 58 1 F84.d=true:=by kernel_rfl
theorem F49.ok:okF Try.prog 22 2 F49.d=true:=by kernel_rfl
theorem F21.ok:okF Try.prog 7 1 F21.d=true:=by kernel_rfl
theorem F9.ok:okF Try.prog 8 2 F9.d=true:=by kernel_rfl
theorem F7.ok:okF Try.prog 25 1 F7.d=true:=by kernel_rfl
theorem F29.ok:okF Try.prog 45 2 F29.d=true:=by kernel_rfl
theorem F16.ok:okF Try.prog 12 2 F16.d=true:=by kernel_rfl
theorem F34.ok:okF Try.prog 34 1 F34.d=true:=by kernel_rfl
theorem hodmantop_TopBytes.ok:okF Try.prog 3 2 hodmantop_TopBytes.d=true:=by kernel_rfl
theorem F22.ok:okF Try.prog 93 2 F22.d=true:=by kernel_rfl
end Go.Proofs.D
