/- Texts of the proof (OK1); no condition. -/
import Derived.Test.YtogdeblppihbnaaTopBytesf
import Derived.Test.YtogdeblppihbnaaTopBytesFb
import Derived.KernelRfl
import Derived.Test.YtogdeblppihbnaaProg
set_option linter.unusedSimpArgs false
set_option linter.unusedVariables false
/- Each function passes the check. -/
set_option maxRecDepth 100000
namespace Go.Proofs.D
open Go
theorem F51.ok:okF Try.prog 70 2 F51.d=true:=by kernel_rfl
theorem F59.ok:okF Try.prog 57 1 F59.d=true:=by kernel_rfl
theorem F43.ok:okF Try.prog 35 1 F43.d=true:=by kernel_rfl
theorem F73.ok:okF Try.prog 53 2 F73.d=true:=by kernel_rfl
theorem F74.ok:okF Try.prog 38 1 F74.d=true:=by kernel_rfl
theorem F60.ok:okF Try.prog 80 2 F60.d=true:=by kernel_rfl
theorem F75.ok:okF Try.prog 59 1 F75.d=true:=by kernel_rfl
theorem F62.ok:okF Try.prog 24 3 F62.d=true:=by kernel_rfl
theorem F36.ok:okF Try.prog 60 3 F36.d=true:=by kernel_rfl
theorem F17.ok:okF Try.prog 31 1 F17.d=true:=by kernel_rfl
theorem F18.ok:okF Try.prog 67 3 F18.d=true:=by kernel_rfl
theorem F54.ok:okF Try.prog 39 2 F54.d=true:=by kernel_rfl
theorem F3.ok:okF Try.prog 103 1 F3.d=true:=by kernel_rfl
theorem F65.ok:okF Try.prog 94 1 F65.d=true:=by kernel_rfl
theorem F77.ok:okF Try.prog 96 4 F77.d=true:=by kernel_rfl
theorem F78.ok:okF Try.prog 87 4 F78.d=true:=by kernel_rfl
theorem F79.ok:okF Try.prog 98 2 F79.d=true:=by kernel_rfl
theorem F67.ok:okF Try.prog 79 4 F67.d=true:=by kernel_rfl
theorem F56.ok:okF Try.prog 78 1 F56.d=true:=by kernel_rfl
theorem F37.ok:okF Try.prog 99 1 F37.d=true:=by kernel_rfl
theorem F38.ok:okF Try.prog 81 2 F38.d=true:=by kernel_rfl
theorem F68.ok:okF Try.prog 84 2 F68.d=true:=by kernel_rfl
theorem F80.ok:okF Try.prog 82 2 F80.d=true:=by kernel_rfl
theorem F5.ok:okF Try.prog 52 1 F5.d=true:=by kernel_rfl
theorem F69.ok:okF Try.prog 32 1 F69.d=true:=by kernel_rfl
theorem F70.ok:okF Try.prog 76 3 F70.d=true:=by kernel_rfl
theorem F26.ok:okF Try.prog 47 4 F26.d=true:=by kernel_rfl
theorem F81.ok:okF Try.prog 62 2 F81.d=true:=by kernel_rfl
theorem F57.ok:okF Try.prog 48 4 F57.d=true:=by kernel_rfl
theorem F33.ok:okF Try.prog 66 2 F33.d=true:=by kernel_rfl
theorem F58.ok:okF Try.prog 63 4 F58.d=true:=by kernel_rfl
theorem F13.ok:okF Try.prog 50 3 F13.d=true:=by kernel_rfl
theorem F40.ok:okF Try.prog 13 2 F40.d=true:=by kernel_rfl
theorem F83.ok:okF Try.prog 21 1 F83.d=true:=by kernel_rfl
theorem F85.ok:okF Try.prog 43 1 F85.d=true:=by kernel_rfl
theorem F20.ok:okF Try.prog 6 0 F20.d=true:=by kernel_rfl
theorem F8.ok:okF Try.prog 23 2 F8.d=true:=by kernel_rfl
theorem F28.ok:okF Try.prog 10 1 F28.d=true:=by kernel_rfl
theorem F10.ok:okF Try.prog 11 3 F10.d=true:=by kernel_rfl
theorem F11.ok:okF Try.prog 26 3 F11.d=true:=by kernel_rfl
theorem F30.ok:okF Try.prog 33 1 F30.d=true:=by kernel_rfl
theorem F14.ok:okF Try.prog 14 3 F14.d=true:=by kernel_rfl
theorem F50.ok:okF Try.prog 92 2 F50.d=true:=by kernel_rfl
theorem F35.ok:okF Try.prog 102 1 F35.d=true:=by kernel_rfl
end Go.Proofs.D
