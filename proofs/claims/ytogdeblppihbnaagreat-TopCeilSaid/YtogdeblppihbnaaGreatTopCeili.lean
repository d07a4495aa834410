/- Texts of the proof (OK1); no condition. -/
import Derived.Test.YtogdeblppihbnaaGreatTopCeilg
import Derived.Test.YtogdeblppihbnaaGreatTopCeilFb
import Derived.KernelRfl
import Derived.Test.YtogdeblppihbnaaGreatProg
set_option linter.unusedSimpArgs false
set_option linter.unusedVariables false
/- Each function passes the check. -/
set_option maxRecDepth 100000
namespace Go.Proofs.D
open Go
theorem F81.ok:okF Tryz.prog 80 2 F81.d=true:=by kernel_rfl
theorem F89.ok:okF Tryz.prog 57 1 F89.d=true:=by kernel_rfl
theorem F104.ok:okF Tryz.prog 32 1 F104.d=true:=by kernel_rfl
theorem F117.ok:okF Tryz.prog 37 1 F117.d=true:=by kernel_rfl
theorem F82.ok:okF Tryz.prog 38 2 F82.d=true:=by kernel_rfl
theorem F90.ok:okF Tryz.prog 99 2 F90.d=true:=by kernel_rfl
theorem F106.ok:okF Tryz.prog 60 1 F106.d=true:=by kernel_rfl
theorem F92.ok:okF Tryz.prog 21 3 F92.d=true:=by kernel_rfl
theorem F65.ok:okF Tryz.prog 70 3 F65.d=true:=by kernel_rfl
theorem F30.ok:okF Tryz.prog 30 1 F30.d=true:=by kernel_rfl
theorem F31.ok:okF Tryz.prog 77 3 F31.d=true:=by kernel_rfl
theorem F84.ok:okF Tryz.prog 14 2 F84.d=true:=by kernel_rfl
theorem F3.ok:okF Tryz.prog 124 1 F3.d=true:=by kernel_rfl
theorem F95.ok:okF Tryz.prog 115 1 F95.d=true:=by kernel_rfl
theorem F108.ok:okF Tryz.prog 117 4 F108.d=true:=by kernel_rfl
theorem F109.ok:okF Tryz.prog 108 4 F109.d=true:=by kernel_rfl
theorem F110.ok:okF Tryz.prog 119 2 F110.d=true:=by kernel_rfl
theorem F97.ok:okF Tryz.prog 98 4 F97.d=true:=by kernel_rfl
theorem F86.ok:okF Tryz.prog 97 1 F86.d=true:=by kernel_rfl
theorem F66.ok:okF Tryz.prog 120 1 F66.d=true:=by kernel_rfl
theorem F67.ok:okF Tryz.prog 102 2 F67.d=true:=by kernel_rfl
theorem F98.ok:okF Tryz.prog 105 2 F98.d=true:=by kernel_rfl
theorem F111.ok:okF Tryz.prog 103 2 F111.d=true:=by kernel_rfl
theorem F5.ok:okF Tryz.prog 56 1 F5.d=true:=by kernel_rfl
theorem F99.ok:okF Tryz.prog 31 1 F99.d=true:=by kernel_rfl
theorem F100.ok:okF Tryz.prog 95 3 F100.d=true:=by kernel_rfl
theorem F49.ok:okF Tryz.prog 51 4 F49.d=true:=by kernel_rfl
theorem F112.ok:okF Tryz.prog 72 2 F112.d=true:=by kernel_rfl
theorem F87.ok:okF Tryz.prog 52 4 F87.d=true:=by kernel_rfl
theorem F61.ok:okF Tryz.prog 76 2 F61.d=true:=by kernel_rfl
theorem F88.ok:okF Tryz.prog 73 4 F88.d=true:=by kernel_rfl
theorem F17.ok:okF Tryz.prog 54 3 F17.d=true:=by kernel_rfl
theorem F69.ok:okF Tryz.prog 11 2 F69.d=true:=by kernel_rfl
theorem F114.ok:okF Tryz.prog 17 1 F114.d=true:=by kernel_rfl
theorem F116.ok:okF Tryz.prog 35 1 F116.d=true:=by kernel_rfl
theorem F33.ok:okF Tryz.prog 5 0 F33.d=true:=by kernel_rfl
theorem F10.ok:okF Tryz.prog 19 2 F10.d=true:=by kernel_rfl
theorem F51.ok:okF Tryz.prog 9 1 F51.d=true:=by kernel_rfl
theorem F52.ok:okF Tryz.prog 82 2 F52.d=true:=by kernel_rfl
theorem F53.ok:okF Tryz.prog 63 1 F53.d=true:=by kernel_rfl
theorem F35.ok:okF Tryz.prog 22 1 F35.d=true:=by kernel_rfl
theorem F36.ok:okF Tryz.prog 13 2 F36.d=true:=by kernel_rfl
theorem F7.ok:okF Tryz.prog 42 2 F7.d=true:=by kernel_rfl
theorem F18.ok:okF Tryz.prog 48 2 F18.d=true:=by kernel_rfl
theorem F54.ok:okF Tryz.prog 64 4 F54.d=true:=by kernel_rfl
theorem F14.ok:okF Tryz.prog 84 3 F14.d=true:=by kernel_rfl
theorem F38.ok:okF Tryz.prog 68 2 F38.d=true:=by kernel_rfl
theorem F15.ok:okF Tryz.prog 85 3 F15.d=true:=by kernel_rfl
theorem F25.ok:okF Tryz.prog 46 1 F25.d=true:=by kernel_rfl
theorem F39.ok:okF Tryz.prog 101 3 F39.d=true:=by kernel_rfl
theorem F41.ok:okF Tryz.prog 89 2 F41.d=true:=by kernel_rfl
theorem F26.ok:okF Tryz.prog 90 3 F26.d=true:=by kernel_rfl
theorem F27.ok:okF Tryz.prog 43 2 F27.d=true:=by kernel_rfl
theorem F28.ok:okF Tryz.prog 47 2 F28.d=true:=by kernel_rfl
theorem F57.ok:okF Tryz.prog 49 3 F57.d=true:=by kernel_rfl
theorem F12.ok:okF Tryz.prog 10 3 F12.d=true:=by kernel_rfl
theorem F102.ok:okF Tryz.prog 15 2 F102.d=true:=by kernel_rfl
theorem hodmantop_TopCeil.ok:okF Tryz.prog 4 2 hodmantop_TopCeil.d=true:=by kernel_rfl
theorem F45.ok:okF Tryz.prog 114 2 F45.d=true:=by kernel_rfl
end Go.Proofs.D
