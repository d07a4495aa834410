/- Texts of the proof (T1); no condition. -/
import Derived.Test.YtbgnjpbcdkegoaaTightAlla
import Derived.KernelRfl
set_option linter.unusedSimpArgs false
set_option linter.unusedVariables false
set_option linter.unusedVariables false
set_option maxRecDepth 100000
namespace Go.Proofs.D
open Go
/- 14 (*hodman/hodmanplay.Picks).Conf -/
def hodmanplay_Picks_Conf.d : DFn := { ntmps := 23, res := [.box 4 (some 8), .box 5 (some 6)], body := (.seq (.region [⟨0, some 4, .boxz 19 [] [.int .i64 0, .int .i64 0, .int .i64 0, .int .i64 0, .int .i64 0, .int .i64 0, .int .i64 0, .int .i64 0], none⟩,
    ⟨1, some 5, .boxz 20 [] [.int .i64 0, .int .i64 0, .int .i64 0, .int .i64 0, .int .i64 0, .int .i64 0], none⟩]) (.seq (.region [⟨0, some 9, .move (.t 0), none⟩,
    ⟨1, some 10, .move (.t 1), none⟩,
    ⟨2, some 11, .call 19 [.t 9, .t 10] [.agg [.int .i64, .int .i64, .int .i64, .int .i64, .int .i64, .int .i64]], none⟩,
    ⟨3, some 6, .boxz 21 [] [.int .i64 0, .int .i64 0, .int .i64 0, .int .i64 0, .int .i64 0, .int .i64 0], none⟩,
    ⟨4, none, .stL 6 21 (.t 11) 6, none⟩]) (.seq (.region [⟨0, some 13, .ldL 6 21 (.agg [.int .i64, .int .i64, .int .i64, .int .i64, .int .i64, .int .i64]), none⟩,
    ⟨1, some 14, .call 24 [.t 13] [.agg [.int .i64, .int .i64, .int .i64, .int .i64, .int .i64, .int .i64, .int .i64, .int .i64], .c (.int .i64)], none⟩,
    ⟨2, some 12, .move (.t 14), none⟩,
    ⟨3, some 15, .ext 12 0, none⟩,
    ⟨4, some 16, .ext 12 1, none⟩,
    ⟨5, some 7, .boxz 22 [] [.int .i64 0, .int .i64 0, .int .i64 0, .int .i64 0, .int .i64 0, .int .i64 0, .int .i64 0, .int .i64 0], none⟩,
    ⟨6, none, .stL 7 22 (.t 15) 8, none⟩,
    ⟨7, some 8, .move (.t 16), none⟩]) (.seq (.region [⟨0, some 17, .ldL 7 22 (.agg [.int .i64, .int .i64, .int .i64, .int .i64, .int .i64, .int .i64, .int .i64, .int .i64]), none⟩,
    ⟨1, some 18, .ldL 6 21 (.agg [.int .i64, .int .i64, .int .i64, .int .i64, .int .i64, .int .i64]), none⟩,
    ⟨2, none, .stL 4 19 (.t 17) 8, none⟩,
    ⟨3, none, .stL 5 20 (.t 18) 6, none⟩]) .ret)))) }
def hodmanplay_Picks_Conf.f (M : Mach) (C : Call) (p0i : Nat) (p0o : Nat) (budget1 : Bool) (G : GH) : Option Res := (C hodmanplay_Picks_Raw.id [.c (.ptr p0i p0o), .c (.bool budget1)] G).bind fun qr_1 => ((qr_1.1[0]?).bind V1.a?).bind fun qcs_2 => if qcs_2.length = 6 then (((qcs_2[0]?).bind (Cell.asI .i64)).bind fun qx_3 => ((qcs_2[1]?).bind (Cell.asI .i64)).bind fun qx_4 => ((qcs_2[2]?).bind (Cell.asI .i64)).bind fun qx_5 => ((qcs_2[3]?).bind (Cell.asI .i64)).bind fun qx_6 => ((qcs_2[4]?).bind (Cell.asI .i64)).bind fun qx_7 => ((qcs_2[5]?).bind (Cell.asI .i64)).bind fun qx_8 => (C hodmanref1_Of.id [.agg [.int .i64 qx_3, .int .i64 qx_4, .int .i64 qx_5, .int .i64 qx_6, .int .i64 qx_7, .int .i64 qx_8]] qr_1.2).bind fun qr_9 => ((qr_9.1[0]?).bind V1.a?).bind fun qcs_10 => if qcs_10.length = 8 then (((qcs_10[0]?).bind (Cell.asI .i64)).bind fun qx_11 => ((qcs_10[1]?).bind (Cell.asI .i64)).bind fun qx_12 => ((qcs_10[2]?).bind (Cell.asI .i64)).bind fun qx_13 => ((qcs_10[3]?).bind (Cell.asI .i64)).bind fun qx_14 => ((qcs_10[4]?).bind (Cell.asI .i64)).bind fun qx_15 => ((qcs_10[5]?).bind (Cell.asI .i64)).bind fun qx_16 => ((qcs_10[6]?).bind (Cell.asI .i64)).bind fun qx_17 => ((qcs_10[7]?).bind (Cell.asI .i64)).bind fun qx_18 => (((qr_9.1[1]?).bind V1.c?).bind (Cell.asI .i64)).bind fun qx_19 => some ([.agg [.int .i64 qx_11, .int .i64 qx_12, .int .i64 qx_13, .int .i64 qx_14, .int .i64 qx_15, .int .i64 qx_16, .int .i64 qx_17, .int .i64 qx_18], .agg [.int .i64 qx_3, .int .i64 qx_4, .int .i64 qx_5, .int .i64 qx_6, .int .i64 qx_7, .int .i64 qx_8]], qr_9.2)) else none) else none
theorem hodmanplay_Picks_Conf.eq (M : Mach) (C : Call) (p0i : Nat) (p0o : Nat) (budget1 : Bool) (G : GH) : runF M C hodmanplay_Picks_Conf.d [.c (.ptr p0i p0o), .c (.bool budget1)] G = hodmanplay_Picks_Conf.f M C p0i p0o budget1 G := by kernel_rfl

/- 61 hodman/hodmanref1.Add -/
def hodmanref1_Add.c6 : DCode := (.cond (.t 23) (.seq (.region [⟨0, some 4, .move (.k (.c (.int .i64 0))), none⟩,
    ⟨1, some 5, .move (.k (.c (.bool false))), none⟩]) .ret) .skip)
def hodmanref1_Add.c10 : DCode := (.seq (.region [⟨0, some 24, .move (.t 0), none⟩,
    ⟨1, some 25, .move (.t 1), none⟩,
    ⟨2, some 26, .bin .add .i64 (.t 24) (.t 25), none⟩,
    ⟨3, some 4, .move (.t 26), none⟩,
    ⟨4, some 5, .move (.k (.c (.bool true))), none⟩]) .ret)
def hodmanref1_Add.d : DFn := { ntmps := 27, res := [.t 4, .t 5], body := (.seq (.region [⟨0, some 4, .move (.k (.c (.int .i64 0))), none⟩,
    ⟨1, some 5, .move (.k (.c (.bool false))), none⟩]) (.seq (.seq (.region [⟨0, some 6, .move (.t 1), none⟩,
    ⟨1, some 7, .cmp .gtr .i64 (.t 6) (.k (.c (.int .i64 0))), none⟩,
    ⟨2, some 8, .move (.t 7), none⟩,
    ⟨3, some 9, .move (.t 0), some (8, true)⟩,
    ⟨4, some 10, .move (.t 1), some (8, true)⟩,
    ⟨5, some 11, .bin .sub .i64 (.k (.c (.int .i64 9223372036854775807))) (.t 10), some (8, true)⟩,
    ⟨6, some 12, .cmp .gtr .i64 (.t 9) (.t 11), some (8, true)⟩,
    ⟨7, some 13, .pick (.t 8) (.t 12) (.k (.c (.bool false))), none⟩,
    ⟨8, some 14, .move (.t 13), none⟩,
    ⟨9, some 15, .move (.t 1), some (14, false)⟩,
    ⟨10, some 16, .cmp .lss .i64 (.t 15) (.k (.c (.int .i64 0))), some (14, false)⟩,
    ⟨11, some 17, .move (.t 16), some (14, false)⟩,
    ⟨12, some 18, .move (.t 0), some (17, true)⟩,
    ⟨13, some 19, .move (.t 1), some (17, true)⟩,
    ⟨14, some 20, .bin .sub .i64 (.k (.c (.int .i64 (-9223372036854775808)))) (.t 19), some (17, true)⟩,
    ⟨15, some 21, .cmp .lss .i64 (.t 18) (.t 20), some (17, true)⟩,
    ⟨16, some 22, .pick (.t 17) (.t 21) (.k (.c (.bool false))), some (14, false)⟩,
    ⟨17, some 23, .pick (.t 14) (.k (.c (.bool true))) (.t 22), none⟩]) (.cut [0, 1, 23] hodmanref1_Add.c6)) hodmanref1_Add.c10)) }
def hodmanref1_Add.k10 (M : Mach) (C : Call) : Kont := execC M.j C (M.ag C) hodmanref1_Add.c10 ({ exits := [], ret := retK hodmanref1_Add.d } : Env) (retK hodmanref1_Add.d)
def hodmanref1_Add.J6 (M : Mach) (C : Call) (a0 : Int) (b1 : Int) (t23 : Bool) (G : GH) : Option Res := M.j (execC M.j C (M.ag C) hodmanref1_Add.c6 ({ exits := [], ret := retK hodmanref1_Add.d } : Env) (hodmanref1_Add.k10 M C)) [.v (.c (.int .i64 a0)), .v (.c (.int .i64 b1)), .und, .und, .und, .und, .und, .und, .und, .und, .und, .und, .und, .und, .und, .und, .und, .und, .und, .und, .und, .und, .und, .v (.c (.bool t23)), .und, .und, .und] G
theorem hodmanref1_Add.J6_eq (M : Mach) (C : Call) (a0 : Int) (b1 : Int) (t23 : Bool) (G : GH) : hodmanref1_Add.J6 M C a0 b1 t23 G = (bif t23 then some ([.c (.int .i64 0), .c (.bool false)], G) else some ([.c (.int .i64 (IntKind.i64.wrap (a0 + b1))), .c (.bool true)], G)) := (M.hj _ _ _).trans (by kernel_rfl)
def hodmanref1_Add.f (M : Mach) (C : Call) (a0 : Int) (b1 : Int) (G : GH) : Option Res := bif decide (b1 > 0) then bif decide (a0 > IntKind.i64.wrap (9223372036854775807 - b1)) then hodmanref1_Add.J6 M C a0 b1 true G else bif decide (b1 < 0) then hodmanref1_Add.J6 M C a0 b1 (decide (a0 < IntKind.i64.wrap ((-9223372036854775808) - b1))) G else hodmanref1_Add.J6 M C a0 b1 false G else bif decide (b1 < 0) then hodmanref1_Add.J6 M C a0 b1 (decide (a0 < IntKind.i64.wrap ((-9223372036854775808) - b1))) G else hodmanref1_Add.J6 M C a0 b1 false G
theorem hodmanref1_Add.eq (M : Mach) (C : Call) (a0 : Int) (b1 : Int) (G : GH) : runF M C hodmanref1_Add.d [.c (.int .i64 a0), .c (.int .i64 b1)] G = hodmanref1_Add.f M C a0 b1 G := by kernel_rfl

/- 45 hodman/hodmanref1.Round -/
def hodmanref1_Round.c6 : DCode := (.cond (.t 11) (.seq (.region [⟨0, some 4, .move (.k (.c (.int .i64 0))), none⟩,
    ⟨1, some 5, .move (.k (.c (.bool false))), none⟩]) .ret) .skip)
def hodmanref1_Round.c18 : DCode := (.seq (.seq (.region [⟨0, some 12, .move (.t 0), none⟩,
    ⟨1, some 13, .move (.t 1), none⟩,
    ⟨2, some 14, .bin .rem .i64 (.t 12) (.t 13), none⟩,
    ⟨3, some 15, .cmp .eql .i64 (.t 14) (.k (.c (.int .i64 0))), none⟩]) (.cond (.t 15) (.seq (.region [⟨0, some 16, .move (.t 0), none⟩,
    ⟨1, some 4, .move (.t 16), none⟩,
    ⟨2, some 5, .move (.k (.c (.bool true))), none⟩]) .ret) .skip)) (.seq (.region [⟨0, some 17, .move (.t 0), none⟩,
    ⟨1, some 18, .move (.t 0), none⟩,
    ⟨2, some 19, .move (.t 1), none⟩,
    ⟨3, some 20, .bin .rem .i64 (.t 18) (.t 19), none⟩,
    ⟨4, some 21, .bin .sub .i64 (.t 17) (.t 20), none⟩,
    ⟨5, some 22, .move (.t 1), none⟩,
    ⟨6, some 23, .call 61 [.t 21, .t 22] [.c (.int .i64), .c (.bool)], none⟩,
    ⟨7, some 24, .ext 23 0, none⟩,
    ⟨8, some 25, .ext 23 1, none⟩,
    ⟨9, some 4, .move (.t 24), none⟩,
    ⟨10, some 5, .move (.t 25), none⟩]) .ret))
def hodmanref1_Round.d : DFn := { ntmps := 26, res := [.t 4, .t 5], body := (.seq (.region [⟨0, some 4, .move (.k (.c (.int .i64 0))), none⟩,
    ⟨1, some 5, .move (.k (.c (.bool false))), none⟩]) (.seq (.seq (.region [⟨0, some 6, .move (.t 0), none⟩,
    ⟨1, some 7, .cmp .lss .i64 (.t 6) (.k (.c (.int .i64 0))), none⟩,
    ⟨2, some 8, .move (.t 7), none⟩,
    ⟨3, some 9, .move (.t 1), some (8, false)⟩,
    ⟨4, some 10, .cmp .lss .i64 (.t 9) (.k (.c (.int .i64 1))), some (8, false)⟩,
    ⟨5, some 11, .pick (.t 8) (.k (.c (.bool true))) (.t 10), none⟩]) (.cut [0, 1, 11] hodmanref1_Round.c6)) hodmanref1_Round.c18)) }
def hodmanref1_Round.k18 (M : Mach) (C : Call) : Kont := execC M.j C (M.ag C) hodmanref1_Round.c18 ({ exits := [], ret := retK hodmanref1_Round.d } : Env) (retK hodmanref1_Round.d)
def hodmanref1_Round.J6 (M : Mach) (C : Call) (v0 : Int) (to1 : Int) (t11 : Bool) (G : GH) : Option Res := M.j (execC M.j C (M.ag C) hodmanref1_Round.c6 ({ exits := [], ret := retK hodmanref1_Round.d } : Env) (hodmanref1_Round.k18 M C)) [.v (.c (.int .i64 v0)), .v (.c (.int .i64 to1)), .und, .und, .und, .und, .und, .und, .und, .und, .und, .v (.c (.bool t11)), .und, .und, .und, .und, .und, .und, .und, .und, .und, .und, .und, .und, .und, .und] G
theorem hodmanref1_Round.J6_eq (M : Mach) (C : Call) (v0 : Int) (to1 : Int) (t11 : Bool) (G : GH) : hodmanref1_Round.J6 M C v0 to1 t11 G = (bif t11 then some ([.c (.int .i64 0), .c (.bool false)], G) else (binD .rem .i64 v0 to1).bind fun qx_1 => bif decide (qx_1 = 0) then some ([.c (.int .i64 v0), .c (.bool true)], G) else (binD .rem .i64 v0 to1).bind fun qx_2 => (C hodmanref1_Add.id [.c (.int .i64 (IntKind.i64.wrap (v0 - qx_2))), .c (.int .i64 to1)] G).bind fun qr_3 => (((qr_3.1[0]?).bind V1.c?).bind (Cell.asI .i64)).bind fun qx_4 => (((qr_3.1[1]?).bind V1.c?).bind Cell.asB).bind fun qb_5 => some ([.c (.int .i64 qx_4), .c (.bool qb_5)], qr_3.2)) := (M.hj _ _ _).trans (by kernel_rfl)
def hodmanref1_Round.f (M : Mach) (C : Call) (v0 : Int) (to1 : Int) (G : GH) : Option Res := bif decide (v0 < 0) then hodmanref1_Round.J6 M C v0 to1 true G else hodmanref1_Round.J6 M C v0 to1 (decide (to1 < 1)) G
theorem hodmanref1_Round.eq (M : Mach) (C : Call) (v0 : Int) (to1 : Int) (G : GH) : runF M C hodmanref1_Round.d [.c (.int .i64 v0), .c (.int .i64 to1)] G = hodmanref1_Round.f M C v0 to1 G := by kernel_rfl

/- 50 hodman/conf.Ceil -/
def conf_Ceil.c6 : DCode := (.cond (.t 12) (.seq (.region [⟨0, some 4, .move (.k (.c (.int .i64 0))), none⟩]) .ret) .skip)
def conf_Ceil.c10 : DCode := (.seq (.region [⟨0, some 13, .faddr 2 2, none⟩,
    ⟨1, some 14, .ldL 13 21 (.c (.int .i64)), none⟩,
    ⟨2, some 15, .move (.t 1), none⟩,
    ⟨3, some 16, .faddr 2 2, none⟩,
    ⟨4, some 17, .ldL 16 21 (.c (.int .i64)), none⟩,
    ⟨5, some 18, .bin .shr .i64 (.t 17) (.k (.c (.int .u64 1))), none⟩,
    ⟨6, some 19, .bin .mul .i64 (.t 15) (.t 18), none⟩,
    ⟨7, some 20, .bin .add .i64 (.t 14) (.t 19), none⟩,
    ⟨8, some 4, .move (.t 20), none⟩]) .ret)
def conf_Ceil.d : DFn := { ntmps := 22, res := [.t 4], body := (.seq (.region [⟨0, some 2, .boxv 21 [9, 13, 16] (.t 0) 8, none⟩,
    ⟨1, some 4, .move (.k (.c (.int .i64 0))), none⟩]) (.seq (.seq (.region [⟨0, some 5, .move (.t 1), none⟩,
    ⟨1, some 6, .cmp .lss .i64 (.t 5) (.k (.c (.int .i64 0))), none⟩,
    ⟨2, some 7, .move (.t 6), none⟩,
    ⟨3, some 8, .move (.t 1), some (7, false)⟩,
    ⟨4, some 9, .faddr 2 3, some (7, false)⟩,
    ⟨5, some 10, .ldL 9 21 (.c (.int .i64)), some (7, false)⟩,
    ⟨6, some 11, .cmp .gtr .i64 (.t 8) (.t 10), some (7, false)⟩,
    ⟨7, some 12, .pick (.t 7) (.k (.c (.bool true))) (.t 11), none⟩]) (.cut [1, 2, 12, 21] conf_Ceil.c6)) conf_Ceil.c10)) }
def conf_Ceil.k10 (M : Mach) (C : Call) : Kont := execC M.j C (M.ag C) conf_Ceil.c10 ({ exits := [], ret := retK conf_Ceil.d } : Env) (retK conf_Ceil.d)
def conf_Ceil.J6 (M : Mach) (C : Call) (class1 : Int) (t12 : Bool) (c21_0 : Int) (c21_1 : Int) (c21_2 : Int) (c21_3 : Int) (c21_4 : Int) (c21_5 : Int) (c21_6 : Int) (c21_7 : Int) (G : GH) : Option Res := M.j (execC M.j C (M.ag C) conf_Ceil.c6 ({ exits := [], ret := retK conf_Ceil.d } : Env) (conf_Ceil.k10 M C)) [.und, .v (.c (.int .i64 class1)), .ref 21 0, .und, .und, .und, .und, .und, .und, .und, .und, .und, .v (.c (.bool t12)), .und, .und, .und, .und, .und, .und, .und, .und, .box [.int .i64 c21_0, .int .i64 c21_1, .int .i64 c21_2, .int .i64 c21_3, .int .i64 c21_4, .int .i64 c21_5, .int .i64 c21_6, .int .i64 c21_7]] G
theorem conf_Ceil.J6_eq (M : Mach) (C : Call) (class1 : Int) (t12 : Bool) (c21_0 : Int) (c21_1 : Int) (c21_2 : Int) (c21_3 : Int) (c21_4 : Int) (c21_5 : Int) (c21_6 : Int) (c21_7 : Int) (G : GH) : conf_Ceil.J6 M C class1 t12 c21_0 c21_1 c21_2 c21_3 c21_4 c21_5 c21_6 c21_7 G = (bif t12 then some ([.c (.int .i64 0)], G) else some ([.c (.int .i64 (IntKind.i64.wrap (c21_2 + (IntKind.i64.wrap (class1 * (Int.fdiv c21_2 (2 ^ (min (1 : Int).toNat IntKind.i64.bits))))))))], G)) := (M.hj _ _ _).trans (by kernel_rfl)
def conf_Ceil.f (M : Mach) (C : Call) (c0_0 : Int) (c0_1 : Int) (c0_2 : Int) (c0_3 : Int) (c0_4 : Int) (c0_5 : Int) (c0_6 : Int) (c0_7 : Int) (class1 : Int) (G : GH) : Option Res := bif decide (class1 < 0) then conf_Ceil.J6 M C class1 true c0_0 c0_1 c0_2 c0_3 c0_4 c0_5 c0_6 c0_7 G else conf_Ceil.J6 M C class1 (decide (class1 > c0_3)) c0_0 c0_1 c0_2 c0_3 c0_4 c0_5 c0_6 c0_7 G
theorem conf_Ceil.eq (M : Mach) (C : Call) (c0_0 : Int) (c0_1 : Int) (c0_2 : Int) (c0_3 : Int) (c0_4 : Int) (c0_5 : Int) (c0_6 : Int) (c0_7 : Int) (class1 : Int) (G : GH) : runF M C conf_Ceil.d [.agg [.int .i64 c0_0, .int .i64 c0_1, .int .i64 c0_2, .int .i64 c0_3, .int .i64 c0_4, .int .i64 c0_5, .int .i64 c0_6, .int .i64 c0_7], .c (.int .i64 class1)] G = conf_Ceil.f M C c0_0 c0_1 c0_2 c0_3 c0_4 c0_5 c0_6 c0_7 class1 G := by kernel_rfl

/- 53 hodman/tight.may -/
def tight_may.d : DFn := { ntmps := 37, res := [.t 2], body := (.seq (.region [⟨0, some 1, .boxv 36 [3, 7, 12, 17, 22, 27, 32] (.t 0) 8, none⟩,
    ⟨1, some 2, .move (.k (.c (.bool false))), none⟩]) (.seq (.region [⟨0, some 3, .faddr 1 0, none⟩,
    ⟨1, some 4, .ldL 3 36 (.c (.int .i64)), none⟩,
    ⟨2, some 5, .cmp .geq .i64 (.t 4) (.k (.c (.int .i64 1))), none⟩,
    ⟨3, some 6, .move (.t 5), none⟩,
    ⟨4, some 7, .faddr 1 0, some (6, true)⟩,
    ⟨5, some 8, .ldL 7 36 (.c (.int .i64)), some (6, true)⟩,
    ⟨6, some 9, .cmp .leq .i64 (.t 8) (.k (.c (.int .i64 65536))), some (6, true)⟩,
    ⟨7, some 10, .pick (.t 6) (.t 9) (.k (.c (.bool false))), none⟩,
    ⟨8, some 11, .move (.t 10), none⟩,
    ⟨9, some 12, .faddr 1 2, some (11, true)⟩,
    ⟨10, some 13, .ldL 12 36 (.c (.int .i64)), some (11, true)⟩,
    ⟨11, some 14, .cmp .geq .i64 (.t 13) (.k (.c (.int .i64 1))), some (11, true)⟩,
    ⟨12, some 15, .pick (.t 11) (.t 14) (.k (.c (.bool false))), none⟩,
    ⟨13, some 16, .move (.t 15), none⟩,
    ⟨14, some 17, .faddr 1 2, some (16, true)⟩,
    ⟨15, some 18, .ldL 17 36 (.c (.int .i64)), some (16, true)⟩,
    ⟨16, some 19, .cmp .leq .i64 (.t 18) (.k (.c (.int .i64 65536))), some (16, true)⟩,
    ⟨17, some 20, .pick (.t 16) (.t 19) (.k (.c (.bool false))), none⟩,
    ⟨18, some 21, .move (.t 20), none⟩,
    ⟨19, some 22, .faddr 1 3, some (21, true)⟩,
    ⟨20, some 23, .ldL 22 36 (.c (.int .i64)), some (21, true)⟩,
    ⟨21, some 24, .cmp .geq .i64 (.t 23) (.k (.c (.int .i64 0))), some (21, true)⟩,
    ⟨22, some 25, .pick (.t 21) (.t 24) (.k (.c (.bool false))), none⟩,
    ⟨23, some 26, .move (.t 25), none⟩,
    ⟨24, some 27, .faddr 1 3, some (26, true)⟩,
    ⟨25, some 28, .ldL 27 36 (.c (.int .i64)), some (26, true)⟩,
    ⟨26, some 29, .cmp .leq .i64 (.t 28) (.k (.c (.int .i64 16))), some (26, true)⟩,
    ⟨27, some 30, .pick (.t 26) (.t 29) (.k (.c (.bool false))), none⟩,
    ⟨28, some 31, .move (.t 30), none⟩,
    ⟨29, some 32, .faddr 1 6, some (31, true)⟩,
    ⟨30, some 33, .ldL 32 36 (.c (.int .i64)), some (31, true)⟩,
    ⟨31, some 34, .cmp .leq .i64 (.t 33) (.k (.c (.int .i64 65536))), some (31, true)⟩,
    ⟨32, some 35, .pick (.t 31) (.t 34) (.k (.c (.bool false))), none⟩,
    ⟨33, some 2, .move (.t 35), none⟩]) .ret)) }
def tight_may.f (M : Mach) (C : Call) (c0_0 : Int) (c0_1 : Int) (c0_2 : Int) (c0_3 : Int) (c0_4 : Int) (c0_5 : Int) (c0_6 : Int) (c0_7 : Int) (G : GH) : Option Res := bif decide (c0_0 ≥ 1) then bif decide (c0_0 ≤ 65536) then bif decide (c0_2 ≥ 1) then bif decide (c0_2 ≤ 65536) then bif decide (c0_3 ≥ 0) then bif decide (c0_3 ≤ 16) then some ([.c (.bool (decide (c0_6 ≤ 65536)))], G) else some ([.c (.bool false)], G) else some ([.c (.bool false)], G) else some ([.c (.bool false)], G) else some ([.c (.bool false)], G) else some ([.c (.bool false)], G) else some ([.c (.bool false)], G)
theorem tight_may.eq (M : Mach) (C : Call) (c0_0 : Int) (c0_1 : Int) (c0_2 : Int) (c0_3 : Int) (c0_4 : Int) (c0_5 : Int) (c0_6 : Int) (c0_7 : Int) (G : GH) : runF M C tight_may.d [.agg [.int .i64 c0_0, .int .i64 c0_1, .int .i64 c0_2, .int .i64 c0_3, .int .i64 c0_4, .int .i64 c0_5, .int .i64 c0_6, .int .i64 c0_7]] G = tight_may.f M C c0_0 c0_1 c0_2 c0_3 c0_4 c0_5 c0_6 c0_7 G := by kernel_rfl

/- 23 hodman/hodmanref1.Size -/
def hodmanref1_Size.c12 : DCode := (.seq (.seq (.region [⟨0, some 9, .move (.t 6), none⟩,
    ⟨1, some 10, .move (.t 1), none⟩,
    ⟨2, some 11, .cmp .lss .i64 (.t 9) (.t 10), none⟩]) (.cond (.t 11) .skip (.exit 0))) (.seq (.block 1 (.region [⟨0, some 14, .move (.t 5), none⟩,
    ⟨1, some 15, .bin .mul .i64 (.t 14) (.k (.c (.int .i64 2))), none⟩,
    ⟨2, some 5, .move (.t 15), none⟩])) (.region [⟨0, some 12, .move (.t 6), none⟩,
    ⟨1, some 13, .bin .add .i64 (.t 12) (.k (.c (.int .i64 1))), none⟩,
    ⟨2, some 6, .move (.t 13), none⟩])))
def hodmanref1_Size.c18 : DCode := (.seq (.region [⟨0, some 16, .move (.t 5), none⟩,
    ⟨1, some 4, .move (.t 16), none⟩]) .ret)
def hodmanref1_Size.d : DFn := { ntmps := 18, res := [.t 4], body := (.seq (.region [⟨0, some 2, .boxv 17 [7] (.t 0) 8, none⟩,
    ⟨1, some 4, .move (.k (.c (.int .i64 0))), none⟩]) (.seq (.region [⟨0, some 7, .faddr 2 0, none⟩,
    ⟨1, some 8, .ldL 7 17 (.c (.int .i64)), none⟩,
    ⟨2, some 5, .move (.t 8), none⟩]) (.seq (.seq (.region [⟨0, some 6, .move (.k (.c (.int .i64 0))), none⟩]) (.block 0 (.loop [1, 5, 6] hodmanref1_Size.c12))) hodmanref1_Size.c18))) }
def hodmanref1_Size.k18 (M : Mach) (C : Call) : Kont := execC M.j C (M.ag C) hodmanref1_Size.c18 ({ exits := [], ret := retK hodmanref1_Size.d } : Env) (retK hodmanref1_Size.d)
def hodmanref1_Size.e14 (M : Mach) (C : Call) : Env := { exits := (0, (hodmanref1_Size.k18 M C)) :: (({ exits := [], ret := retK hodmanref1_Size.d } : Env)).exits, ret := (({ exits := [], ret := retK hodmanref1_Size.d } : Env)).ret }
def hodmanref1_Size.L13 (M : Mach) (C : Call) (class1 : Int) (n5 : Int) (i6 : Int) (G : GH) : Option Res := M.ag C [1, 5, 6] hodmanref1_Size.c12 (hodmanref1_Size.e14 M C) (hodmanref1_Size.k18 M C) [.und, .v (.c (.int .i64 class1)), .und, .und, .und, .v (.c (.int .i64 n5)), .v (.c (.int .i64 i6)), .und, .und, .und, .und, .und, .und, .und, .und, .und, .und, .und] G
theorem hodmanref1_Size.L13_eq (M : Mach) (C : Call) (class1 : Int) (n5 : Int) (i6 : Int) (G : GH) : hodmanref1_Size.L13 M C class1 n5 i6 G = (bif decide (i6 < class1) then hodmanref1_Size.L13 M C class1 (IntKind.i64.wrap (n5 * 2)) (IntKind.i64.wrap (i6 + 1)) G else some ([.c (.int .i64 n5)], G)) := (M.hs _ _ _ _ _ _ _).trans (by kernel_rfl)
def hodmanref1_Size.f (M : Mach) (C : Call) (c0_0 : Int) (c0_1 : Int) (c0_2 : Int) (c0_3 : Int) (c0_4 : Int) (c0_5 : Int) (c0_6 : Int) (c0_7 : Int) (class1 : Int) (G : GH) : Option Res := hodmanref1_Size.L13 M C class1 c0_0 0 G
theorem hodmanref1_Size.eq (M : Mach) (C : Call) (c0_0 : Int) (c0_1 : Int) (c0_2 : Int) (c0_3 : Int) (c0_4 : Int) (c0_5 : Int) (c0_6 : Int) (c0_7 : Int) (class1 : Int) (G : GH) : runF M C hodmanref1_Size.d [.agg [.int .i64 c0_0, .int .i64 c0_1, .int .i64 c0_2, .int .i64 c0_3, .int .i64 c0_4, .int .i64 c0_5, .int .i64 c0_6, .int .i64 c0_7], .c (.int .i64 class1)] G = hodmanref1_Size.f M C c0_0 c0_1 c0_2 c0_3 c0_4 c0_5 c0_6 c0_7 class1 G := by kernel_rfl

/- 16 hodman/tight.Stages -/
def tight_Stages.d : DFn := { ntmps := 9, res := [.t 2], body := (.seq (.region [⟨0, some 1, .boxv 8 [] (.t 0) 8, none⟩,
    ⟨1, some 2, .move (.k (.c (.sl 1 0 0 0))), none⟩]) (.seq (.region [⟨0, some 3, .ldL 1 8 (.agg [.int .i64, .int .i64, .int .i64, .int .i64, .int .i64, .int .i64, .int .i64, .int .i64]), none⟩,
    ⟨1, some 4, .call 36 [.t 3] [.c (.ptr)], none⟩,
    ⟨2, some 5, .nilck (.t 4), none⟩,
    ⟨3, some 6, .faddr 5 11, none⟩,
    ⟨4, some 7, .ldG 6 (.c (.sl 1)), none⟩,
    ⟨5, some 2, .move (.t 7), none⟩]) .ret)) }
def tight_Stages.f (M : Mach) (C : Call) (c0_0 : Int) (c0_1 : Int) (c0_2 : Int) (c0_3 : Int) (c0_4 : Int) (c0_5 : Int) (c0_6 : Int) (c0_7 : Int) (G : GH) : Option Res := (C tight_all.id [.agg [.int .i64 c0_0, .int .i64 c0_1, .int .i64 c0_2, .int .i64 c0_3, .int .i64 c0_4, .int .i64 c0_5, .int .i64 c0_6, .int .i64 c0_7]] G).bind fun qr_1 => (((qr_1.1[0]?).bind V1.c?).bind Cell.asP).bind fun qp_2 => guardK (!Nat.beq qp_2.1 0) (((qr_1.2.ld qp_2.1 (qp_2.2 + 11)).bind (Cell.asS 1)).bind fun qs_3 => some ([.c (.sl 1 qs_3.1 qs_3.2.1 qs_3.2.2)], qr_1.2))
theorem tight_Stages.eq (M : Mach) (C : Call) (c0_0 : Int) (c0_1 : Int) (c0_2 : Int) (c0_3 : Int) (c0_4 : Int) (c0_5 : Int) (c0_6 : Int) (c0_7 : Int) (G : GH) : runF M C tight_Stages.d [.agg [.int .i64 c0_0, .int .i64 c0_1, .int .i64 c0_2, .int .i64 c0_3, .int .i64 c0_4, .int .i64 c0_5, .int .i64 c0_6, .int .i64 c0_7]] G = tight_Stages.f M C c0_0 c0_1 c0_2 c0_3 c0_4 c0_5 c0_6 c0_7 G := by kernel_rfl

/- 18 hodman/tight.Script -/
def tight_Script.d : DFn := { ntmps := 9, res := [.t 2], body := (.seq (.region [⟨0, some 1, .boxv 8 [] (.t 0) 8, none⟩,
    ⟨1, some 2, .move (.k (.c (.sl 6 0 0 0))), none⟩]) (.seq (.region [⟨0, some 3, .ldL 1 8 (.agg [.int .i64, .int .i64, .int .i64, .int .i64, .int .i64, .int .i64, .int .i64, .int .i64]), none⟩,
    ⟨1, some 4, .call 36 [.t 3] [.c (.ptr)], none⟩,
    ⟨2, some 5, .nilck (.t 4), none⟩,
    ⟨3, some 6, .faddr 5 8, none⟩,
    ⟨4, some 7, .ldG 6 (.c (.sl 6)), none⟩,
    ⟨5, some 2, .move (.t 7), none⟩]) .ret)) }
def tight_Script.f (M : Mach) (C : Call) (c0_0 : Int) (c0_1 : Int) (c0_2 : Int) (c0_3 : Int) (c0_4 : Int) (c0_5 : Int) (c0_6 : Int) (c0_7 : Int) (G : GH) : Option Res := (C tight_all.id [.agg [.int .i64 c0_0, .int .i64 c0_1, .int .i64 c0_2, .int .i64 c0_3, .int .i64 c0_4, .int .i64 c0_5, .int .i64 c0_6, .int .i64 c0_7]] G).bind fun qr_1 => (((qr_1.1[0]?).bind V1.c?).bind Cell.asP).bind fun qp_2 => guardK (!Nat.beq qp_2.1 0) (((qr_1.2.ld qp_2.1 (qp_2.2 + 8)).bind (Cell.asS 6)).bind fun qs_3 => some ([.c (.sl 6 qs_3.1 qs_3.2.1 qs_3.2.2)], qr_1.2))
theorem tight_Script.eq (M : Mach) (C : Call) (c0_0 : Int) (c0_1 : Int) (c0_2 : Int) (c0_3 : Int) (c0_4 : Int) (c0_5 : Int) (c0_6 : Int) (c0_7 : Int) (G : GH) : runF M C tight_Script.d [.agg [.int .i64 c0_0, .int .i64 c0_1, .int .i64 c0_2, .int .i64 c0_3, .int .i64 c0_4, .int .i64 c0_5, .int .i64 c0_6, .int .i64 c0_7]] G = tight_Script.f M C c0_0 c0_1 c0_2 c0_3 c0_4 c0_5 c0_6 c0_7 G := by kernel_rfl

/- 13 hodman/hodmanplay.Made -/
def hodmanplay_Made.d : DFn := { ntmps := 6, res := [.t 2], body := (.seq (.region [⟨0, some 2, .move (.k (.c (.ptr 0 0))), none⟩]) (.seq (.region [⟨0, some 3, .move (.t 0), none⟩,
    ⟨1, some 4, .build [.sl 1 0 0 0, .int .i64 0] [(0, 1, .t 3)], none⟩,
    ⟨2, some 5, .newv (.t 4) 2, none⟩,
    ⟨3, some 2, .move (.t 5), none⟩]) .ret)) }
def hodmanplay_Made.f (M : Mach) (C : Call) (l0i : Nat) (l0o : Nat) (l0n : Nat) (G : GH) : Option Res := let qG_1 := G.alloc (.row [.sl 1 l0i l0o l0n, .int .i64 0] false); some ([.c (.ptr G.next 0)], qG_1)
theorem hodmanplay_Made.eq (M : Mach) (C : Call) (l0i : Nat) (l0o : Nat) (l0n : Nat) (G : GH) : runF M C hodmanplay_Made.d [.c (.sl 1 l0i l0o l0n)] G = hodmanplay_Made.f M C l0i l0o l0n G := by kernel_rfl
end Go.Proofs.D
