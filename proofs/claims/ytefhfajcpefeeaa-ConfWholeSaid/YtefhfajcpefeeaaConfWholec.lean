/- Texts of the proof (Tab); no condition. -/
import Derived.Test.YtefhfajcpefeeaaConfWholeb
import Derived.Test.YtefhfajcpefeeaaFa
set_option linter.unusedSimpArgs false
set_option linter.unusedVariables false
set_option linter.unusedVariables false
set_option maxRecDepth 100000
namespace Go.Proofs.D
open Go

def tab : List (Nat × Nat × DFn) := [(37, 1, calc_Log.d), (38, 1, calc_Up.d), (27, 2, conf_Shift.d), (46, 1, conf_within.d), (48, 2, calc_Add.d), (47, 2, calc_Round.d), (26, 1, conf_Of.d), (28, 2, conf_Ceil.d), (24, 0, hodmanlaw2_begun.d), (8, 1, hodmanlaw2_ConfWhole.d)]
def T (f : Nat) : Option (Nat × DFn) := (tab.find? fun x => Nat.beq x.1 f).map (·.2)
noncomputable abbrev CW : Call := callW T
theorem calc_Log.cw (v0 : Int) (G : GH) : CW calc_Log.id [.c (.int .i64 v0)] G = calc_Log.f machW CW v0 G := (callW_eq (p := 1) (d := calc_Log.d) rfl _ rfl G).trans (calc_Log.eq machW CW v0 G)
theorem calc_Up.cw (v0 : Int) (G : GH) : CW calc_Up.id [.c (.int .i64 v0)] G = calc_Up.f machW CW v0 G := (callW_eq (p := 1) (d := calc_Up.d) rfl _ rfl G).trans (calc_Up.eq machW CW v0 G)
theorem conf_Shift.cw (c0_0 : Int) (c0_1 : Int) (c0_2 : Int) (c0_3 : Int) (c0_4 : Int) (c0_5 : Int) (c0_6 : Int) (c0_7 : Int) (charge1 : Int) (G : GH) : CW conf_Shift.id [.agg [.int .i64 c0_0, .int .i64 c0_1, .int .i64 c0_2, .int .i64 c0_3, .int .i64 c0_4, .int .i64 c0_5, .int .i64 c0_6, .int .i64 c0_7], .c (.int .i64 charge1)] G = conf_Shift.f machW CW c0_0 c0_1 c0_2 c0_3 c0_4 c0_5 c0_6 c0_7 charge1 G := (callW_eq (p := 2) (d := conf_Shift.d) rfl _ rfl G).trans (conf_Shift.eq machW CW c0_0 c0_1 c0_2 c0_3 c0_4 c0_5 c0_6 c0_7 charge1 G)
theorem conf_within.cw (l0i : Nat) (l0o : Nat) (l0n : Nat) (G : GH) : CW conf_within.id [.c (.sl 1 l0i l0o l0n)] G = conf_within.f machW CW l0i l0o l0n G := (callW_eq (p := 1) (d := conf_within.d) rfl _ rfl G).trans (conf_within.eq machW CW l0i l0o l0n G)
theorem calc_Add.cw (a0 : Int) (b1 : Int) (G : GH) : CW calc_Add.id [.c (.int .i64 a0), .c (.int .i64 b1)] G = calc_Add.f machW CW a0 b1 G := (callW_eq (p := 2) (d := calc_Add.d) rfl _ rfl G).trans (calc_Add.eq machW CW a0 b1 G)
theorem calc_Round.cw (v0 : Int) (to1 : Int) (G : GH) : CW calc_Round.id [.c (.int .i64 v0), .c (.int .i64 to1)] G = calc_Round.f machW CW v0 to1 G := (callW_eq (p := 2) (d := calc_Round.d) rfl _ rfl G).trans (calc_Round.eq machW CW v0 to1 G)
theorem conf_Of.cw (r0_0 : Int) (r0_1 : Int) (r0_2 : Int) (r0_3 : Int) (r0_4 : Int) (r0_5 : Int) (G : GH) : CW conf_Of.id [.agg [.int .i64 r0_0, .int .i64 r0_1, .int .i64 r0_2, .int .i64 r0_3, .int .i64 r0_4, .int .i64 r0_5]] G = conf_Of.f machW CW r0_0 r0_1 r0_2 r0_3 r0_4 r0_5 G := (callW_eq (p := 1) (d := conf_Of.d) rfl _ rfl G).trans (conf_Of.eq machW CW r0_0 r0_1 r0_2 r0_3 r0_4 r0_5 G)
theorem conf_Ceil.cw (c0_0 : Int) (c0_1 : Int) (c0_2 : Int) (c0_3 : Int) (c0_4 : Int) (c0_5 : Int) (c0_6 : Int) (c0_7 : Int) (class1 : Int) (G : GH) : CW conf_Ceil.id [.agg [.int .i64 c0_0, .int .i64 c0_1, .int .i64 c0_2, .int .i64 c0_3, .int .i64 c0_4, .int .i64 c0_5, .int .i64 c0_6, .int .i64 c0_7], .c (.int .i64 class1)] G = conf_Ceil.f machW CW c0_0 c0_1 c0_2 c0_3 c0_4 c0_5 c0_6 c0_7 class1 G := (callW_eq (p := 2) (d := conf_Ceil.d) rfl _ rfl G).trans (conf_Ceil.eq machW CW c0_0 c0_1 c0_2 c0_3 c0_4 c0_5 c0_6 c0_7 class1 G)
theorem hodmanlaw2_begun.cw  (G : GH) : CW hodmanlaw2_begun.id [] G = hodmanlaw2_begun.f machW CW  G := (callW_eq (p := 0) (d := hodmanlaw2_begun.d) rfl _ rfl G).trans (hodmanlaw2_begun.eq machW CW  G)
theorem hodmanlaw2_ConfWhole.cw (t0_0 : Int) (t0_1 : Int) (t0_2 : Int) (t0_3 : Int) (t0_4 : Int) (t0_5 : Int) (G : GH) : CW hodmanlaw2_ConfWhole.id [.agg [.int .i64 t0_0, .int .i64 t0_1, .int .i64 t0_2, .int .i64 t0_3, .int .i64 t0_4, .int .i64 t0_5]] G = hodmanlaw2_ConfWhole.f machW CW t0_0 t0_1 t0_2 t0_3 t0_4 t0_5 G := (callW_eq (p := 1) (d := hodmanlaw2_ConfWhole.d) rfl _ rfl G).trans (hodmanlaw2_ConfWhole.eq machW CW t0_0 t0_1 t0_2 t0_3 t0_4 t0_5 G)
end Go.Proofs.D
