/- Texts of the proof (OK0); no condition. -/
import Derived.Test.YtogdeblppihbnaaGreatTopCeilg
import Derived.Test.YtogdeblppihbnaaGreatTopCeilFb
import Derived.KernelRfl
import Derived.Test.YtogdeblppihbnaaGreatProg
set_option linter.unusedSimpArgs false
set_option linter.unusedVariables false
/- Each function passes the check. -/
set_option maxRecDepth 100000
namespace Go.Proofs.D
open Go
theorem F70.ok:okF Tryz.prog 79 1 F70.d=true:=by kernel_rfl
theorem F103.ok:okF Tryz.prog 78 2 F103.d=true:=by kernel_rfl
theorem F71.ok:okF Tryz.prog 33 1 F71.d=true:=by kernel_rfl
theorem F72.ok:okF Tryz.prog 36 1 F72.d=true:=by kernel_rfl
theorem F105.ok:okF Tryz.prog 59 2 F105.d=true:=by kernel_rfl
theorem F118.ok:okF Tryz.prog 20 1 F118.d=true:=by kernel_rfl
theorem F83.ok:okF Tryz.prog 81 1 F83.d=true:=by kernel_rfl
theorem F91.ok:okF Tryz.prog 39 2 F91.d=true:=by kernel_rfl
theorem F107.ok:okF Tryz.prog 8 1 F107.d=true:=by kernel_rfl
theorem F93.ok:okF Tryz.prog 50 4 F93.d=true:=by kernel_rfl
theorem F94.ok:okF Tryz.prog 93 3 F94.d=true:=by kernel_rfl
theorem F46.ok:okF Tryz.prog 75 3 F46.d=true:=by kernel_rfl
theorem F73.ok:okF Tryz.prog 91 2 F73.d=true:=by kernel_rfl
theorem F4.ok:okF Tryz.prog 125 1 F4.d=true:=by kernel_rfl
theorem F119.ok:okF Tryz.prog 116 3 F119.d=true:=by kernel_rfl
theorem F96.ok:okF Tryz.prog 118 4 F96.d=true:=by kernel_rfl
theorem F85.ok:okF Tryz.prog 107 1 F85.d=true:=by kernel_rfl
theorem F74.ok:okF Tryz.prog 109 2 F74.d=true:=by kernel_rfl
theorem F2.ok:okF Tryz.prog 104 1 F2.d=true:=by kernel_rfl
theorem F75.ok:okF Tryz.prog 126 1 F75.d=true:=by kernel_rfl
theorem F47.ok:okF Tryz.prog 110 2 F47.d=true:=by kernel_rfl
theorem F68.ok:okF Tryz.prog 112 3 F68.d=true:=by kernel_rfl
theorem F76.ok:okF Tryz.prog 92 2 F76.d=true:=by kernel_rfl
theorem F77.ok:okF Tryz.prog 29 2 F77.d=true:=by kernel_rfl
theorem F59.ok:okF Tryz.prog 94 5 F59.d=true:=by kernel_rfl
theorem F48.ok:okF Tryz.prog 71 3 F48.d=true:=by kernel_rfl
theorem F16.ok:okF Tryz.prog 26 3 F16.d=true:=by kernel_rfl
theorem F60.ok:okF Tryz.prog 53 3 F60.d=true:=by kernel_rfl
theorem F22.ok:okF Tryz.prog 27 3 F22.d=true:=by kernel_rfl
theorem F101.ok:okF Tryz.prog 96 2 F101.d=true:=by kernel_rfl
theorem F50.ok:okF Tryz.prog 55 2 F50.d=true:=by kernel_rfl
theorem F6.ok:okF Tryz.prog 74 1 F6.d=true:=by kernel_rfl
theorem F32.ok:okF Tryz.prog 28 2 F32.d=true:=by kernel_rfl
theorem F113.ok:okF Tryz.prog 34 2 F113.d=true:=by kernel_rfl
theorem F115.ok:okF Tryz.prog 58 1 F115.d=true:=by kernel_rfl
theorem F78.ok:okF Tryz.prog 18 2 F78.d=true:=by kernel_rfl
theorem F34.ok:okF Tryz.prog 6 1 F34.d=true:=by kernel_rfl
theorem F11.ok:okF Tryz.prog 7 2 F11.d=true:=by kernel_rfl
theorem F62.ok:okF Tryz.prog 61 1 F62.d=true:=by kernel_rfl
theorem F23.ok:okF Tryz.prog 62 2 F23.d=true:=by kernel_rfl
theorem F63.ok:okF Tryz.prog 40 1 F63.d=true:=by kernel_rfl
theorem F8.ok:okF Tryz.prog 23 1 F8.d=true:=by kernel_rfl
theorem F9.ok:okF Tryz.prog 41 2 F9.d=true:=by kernel_rfl
theorem F13.ok:okF Tryz.prog 24 3 F13.d=true:=by kernel_rfl
theorem F19.ok:okF Tryz.prog 83 3 F19.d=true:=by kernel_rfl
theorem F55.ok:okF Tryz.prog 100 2 F55.d=true:=by kernel_rfl
theorem F37.ok:okF Tryz.prog 65 4 F37.d=true:=by kernel_rfl
theorem F56.ok:okF Tryz.prog 45 3 F56.d=true:=by kernel_rfl
theorem F24.ok:okF Tryz.prog 86 3 F24.d=true:=by kernel_rfl
theorem F20.ok:okF Tryz.prog 87 5 F20.d=true:=by kernel_rfl
theorem F40.ok:okF Tryz.prog 88 4 F40.d=true:=by kernel_rfl
theorem F21.ok:okF Tryz.prog 66 4 F21.d=true:=by kernel_rfl
theorem F42.ok:okF Tryz.prog 67 3 F42.d=true:=by kernel_rfl
theorem F43.ok:okF Tryz.prog 44 2 F43.d=true:=by kernel_rfl
theorem F44.ok:okF Tryz.prog 69 4 F44.d=true:=by kernel_rfl
theorem F58.ok:okF Tryz.prog 25 2 F58.d=true:=by kernel_rfl
theorem F29.ok:okF Tryz.prog 12 1 F29.d=true:=by kernel_rfl
theorem F79.ok:okF Tryz.prog 16 2 F79.d=true:=by kernel_rfl
theorem F80.ok:okF Tryz.prog 113 2 F80.d=true:=by kernel_rfl
theorem F64.ok:okF Tryz.prog 123 1 F64.d=true:=by kernel_rfl
end Go.Proofs.D
