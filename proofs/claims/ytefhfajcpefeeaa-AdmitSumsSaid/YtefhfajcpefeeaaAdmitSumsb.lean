/- Texts of the proof (T0); no condition. -/
import Derived.Test.YtefhfajcpefeeaaAdmitSumsa
import Derived.KernelRfl
set_option linter.unusedSimpArgs false
set_option linter.unusedVariables false
set_option linter.unusedVariables false
set_option maxRecDepth 100000
namespace Go.Proofs.D
open Go
/- 12 hodman/hodmanlaw16.AdmitSums -/
def hodmanlaw16_AdmitSums.c33 : DCode := (.cond (.t 133) (.seq (.region [⟨0, some 12, .move (.k (.c (.bool false))), none⟩]) .ret) .skip)
def hodmanlaw16_AdmitSums.c45 : DCode := (.seq (.region [⟨0, some 135, .ldL 13 186 (.agg [.int .i64, .int .i64, .int .i64, .int .i64, .int .i64, .int .i64, .int .i64, .int .i64]), none⟩,
    ⟨1, some 136, .move (.t 15), none⟩,
    ⟨2, some 137, .move (.t 19), none⟩,
    ⟨3, some 138, .move (.t 17), none⟩,
    ⟨4, some 139, .call 33 [.t 135, .t 136, .t 137, .t 138] [.c (.int .i64), .c (.int .i64)], none⟩,
    ⟨5, some 134, .move (.t 139), none⟩,
    ⟨6, some 140, .ext 134 0, none⟩,
    ⟨7, some 141, .ext 134 1, none⟩,
    ⟨8, some 24, .move (.t 140), none⟩,
    ⟨9, some 25, .move (.t 141), none⟩]) (.seq (.region [⟨0, some 143, .ldL 13 186 (.agg [.int .i64, .int .i64, .int .i64, .int .i64, .int .i64, .int .i64, .int .i64, .int .i64]), none⟩,
    ⟨1, some 144, .move (.t 15), none⟩,
    ⟨2, some 145, .move (.t 19), none⟩,
    ⟨3, some 146, .move (.t 17), none⟩,
    ⟨4, some 147, .bin .mul .i64 (.t 145) (.t 146), none⟩,
    ⟨5, some 148, .call 31 [.t 143, .t 144, .t 147, .k (.c (.int .i64 1))] [.c (.int .i64), .c (.int .i64)], none⟩,
    ⟨6, some 142, .move (.t 148), none⟩,
    ⟨7, some 149, .ext 142 0, none⟩,
    ⟨8, some 150, .ext 142 1, none⟩,
    ⟨9, some 26, .move (.t 149), none⟩,
    ⟨10, some 27, .move (.t 150), none⟩]) (.seq (.region [⟨0, some 152, .ldL 13 186 (.agg [.int .i64, .int .i64, .int .i64, .int .i64, .int .i64, .int .i64, .int .i64, .int .i64]), none⟩,
    ⟨1, some 153, .move (.t 15), none⟩,
    ⟨2, some 154, .move (.t 15), none⟩,
    ⟨3, some 155, .move (.t 16), none⟩,
    ⟨4, some 156, .bin .sub .i64 (.t 154) (.t 155), none⟩,
    ⟨5, some 157, .move (.t 17), none⟩,
    ⟨6, some 158, .call 35 [.t 152, .t 153, .t 156, .t 157] [.c (.int .i64), .c (.int .i64)], none⟩,
    ⟨7, some 151, .move (.t 158), none⟩,
    ⟨8, some 159, .ext 151 0, none⟩,
    ⟨9, some 160, .ext 151 1, none⟩,
    ⟨10, some 28, .move (.t 159), none⟩,
    ⟨11, some 29, .move (.t 160), none⟩]) (.seq (.region [⟨0, some 162, .ldL 13 186 (.agg [.int .i64, .int .i64, .int .i64, .int .i64, .int .i64, .int .i64, .int .i64, .int .i64]), none⟩,
    ⟨1, some 163, .move (.t 16), none⟩,
    ⟨2, some 164, .move (.t 17), none⟩,
    ⟨3, some 165, .call 31 [.t 162, .t 163, .t 164, .k (.c (.int .i64 1))] [.c (.int .i64), .c (.int .i64)], none⟩,
    ⟨4, some 161, .move (.t 165), none⟩,
    ⟨5, some 166, .ext 161 0, none⟩,
    ⟨6, some 167, .ext 161 1, none⟩,
    ⟨7, some 30, .move (.t 166), none⟩,
    ⟨8, some 31, .move (.t 167), none⟩]) (.seq (.region [⟨0, some 168, .move (.t 24), none⟩,
    ⟨1, some 169, .move (.t 26), none⟩,
    ⟨2, some 170, .cmp .eql .i64 (.t 168) (.t 169), none⟩,
    ⟨3, some 171, .move (.t 170), none⟩,
    ⟨4, some 172, .move (.t 25), some (171, true)⟩,
    ⟨5, some 173, .move (.t 27), some (171, true)⟩,
    ⟨6, some 174, .cmp .eql .i64 (.t 172) (.t 173), some (171, true)⟩,
    ⟨7, some 175, .pick (.t 171) (.t 174) (.k (.c (.bool false))), none⟩,
    ⟨8, some 176, .move (.t 175), none⟩,
    ⟨9, some 177, .move (.t 28), some (176, true)⟩,
    ⟨10, some 178, .move (.t 30), some (176, true)⟩,
    ⟨11, some 179, .cmp .eql .i64 (.t 177) (.t 178), some (176, true)⟩,
    ⟨12, some 180, .pick (.t 176) (.t 179) (.k (.c (.bool false))), none⟩,
    ⟨13, some 181, .move (.t 180), none⟩,
    ⟨14, some 182, .move (.t 29), some (181, true)⟩,
    ⟨15, some 183, .move (.t 31), some (181, true)⟩,
    ⟨16, some 184, .cmp .eql .i64 (.t 182) (.t 183), some (181, true)⟩,
    ⟨17, some 185, .pick (.t 181) (.t 184) (.k (.c (.bool false))), none⟩,
    ⟨18, some 12, .move (.t 185), none⟩]) .ret)))))
def hodmanlaw16_AdmitSums.d : DFn := { ntmps := 188, res := [.t 12], body := (.seq (.region [⟨0, some 12, .move (.k (.c (.bool false))), none⟩]) (.seq (.seq (.region [⟨0, some 32, .call 30 [] [.c (.bool)], none⟩,
    ⟨1, some 33, .not (.t 32), none⟩]) (.cond (.t 33) (.seq (.region [⟨0, some 12, .move (.k (.c (.bool false))), none⟩]) .ret) .skip)) (.seq (.seq (.region [⟨0, some 34, .move (.t 0), none⟩,
    ⟨1, some 35, .len (.t 34), none⟩,
    ⟨2, some 36, .cmp .gtr .i64 (.t 35) (.k (.c (.int .i64 6))), none⟩]) (.cond (.t 36) (.seq (.region [⟨0, some 12, .move (.k (.c (.bool true))), none⟩]) .ret) .skip)) (.seq (.region [⟨0, some 38, .move (.t 0), none⟩,
    ⟨1, some 39, .call 15 [.t 38] [.c (.ptr)], none⟩,
    ⟨2, some 40, .call 16 [.t 39, .k (.c (.bool false))] [.agg [.int .i64, .int .i64, .int .i64, .int .i64, .int .i64, .int .i64, .int .i64, .int .i64], .agg [.int .i64, .int .i64, .int .i64, .int .i64, .int .i64, .int .i64]], none⟩,
    ⟨3, some 37, .move (.t 40), none⟩,
    ⟨4, some 41, .ext 37 0, none⟩,
    ⟨5, some 42, .ext 37 1, none⟩,
    ⟨6, some 13, .boxz 186 [43, 48, 61, 96, 129] [.int .i64 0, .int .i64 0, .int .i64 0, .int .i64 0, .int .i64 0, .int .i64 0, .int .i64 0, .int .i64 0], none⟩,
    ⟨7, some 14, .boxz 187 [] [.int .i64 0, .int .i64 0, .int .i64 0, .int .i64 0, .int .i64 0, .int .i64 0], none⟩,
    ⟨8, none, .stL 13 186 (.t 41) 8, none⟩,
    ⟨9, none, .stL 14 187 (.t 42) 6, none⟩]) (.seq (.seq (.region [⟨0, some 43, .faddr 13 0, none⟩,
    ⟨1, some 44, .ldL 43 186 (.c (.int .i64)), none⟩,
    ⟨2, some 45, .cmp .eql .i64 (.t 44) (.k (.c (.int .i64 0))), none⟩]) (.cond (.t 45) (.seq (.region [⟨0, some 12, .move (.k (.c (.bool true))), none⟩]) .ret) .skip)) (.seq (.region [⟨0, some 46, .move (.t 1), none⟩,
    ⟨1, some 47, .conv .i64 (.t 46), none⟩,
    ⟨2, some 48, .faddr 13 2, none⟩,
    ⟨3, some 49, .ldL 48 186 (.c (.int .i64)), none⟩,
    ⟨4, some 50, .bin .add .i64 (.t 49) (.k (.c (.int .i64 1))), none⟩,
    ⟨5, some 51, .bin .rem .i64 (.t 47) (.t 50), none⟩,
    ⟨6, some 15, .move (.t 51), none⟩]) (.seq (.region [⟨0, some 52, .move (.t 15), none⟩,
    ⟨1, some 53, .move (.t 2), none⟩,
    ⟨2, some 54, .conv .i64 (.t 53), none⟩,
    ⟨3, some 55, .move (.t 15), none⟩,
    ⟨4, some 56, .bin .add .i64 (.t 55) (.k (.c (.int .i64 1))), none⟩,
    ⟨5, some 57, .bin .rem .i64 (.t 54) (.t 56), none⟩,
    ⟨6, some 58, .bin .sub .i64 (.t 52) (.t 57), none⟩,
    ⟨7, some 16, .move (.t 58), none⟩]) (.seq (.region [⟨0, some 59, .move (.t 3), none⟩,
    ⟨1, some 60, .conv .i64 (.t 59), none⟩,
    ⟨2, some 61, .faddr 13 1, none⟩,
    ⟨3, some 62, .ldL 61 186 (.c (.int .i64)), none⟩,
    ⟨4, some 63, .bin .add .i64 (.t 62) (.k (.c (.int .i64 2))), none⟩,
    ⟨5, some 64, .bin .rem .i64 (.t 60) (.t 63), none⟩,
    ⟨6, some 65, .move (.t 4), none⟩,
    ⟨7, some 66, .bin .rem .u8 (.t 65) (.k (.c (.int .u8 6))), none⟩,
    ⟨8, some 67, .bin .shl .i64 (.k (.c (.int .i64 1))) (.t 66), none⟩,
    ⟨9, some 68, .move (.t 5), none⟩,
    ⟨10, some 69, .bin .rem .u8 (.t 68) (.k (.c (.int .u8 5))), none⟩,
    ⟨11, some 70, .conv .i64 (.t 69), none⟩,
    ⟨12, some 17, .move (.t 64), none⟩,
    ⟨13, some 18, .move (.t 67), none⟩,
    ⟨14, some 19, .move (.t 70), none⟩]) (.seq (.region [⟨0, some 72, .ldL 13 186 (.agg [.int .i64, .int .i64, .int .i64, .int .i64, .int .i64, .int .i64, .int .i64, .int .i64]), none⟩,
    ⟨1, some 73, .move (.t 15), none⟩,
    ⟨2, some 74, .move (.t 17), none⟩,
    ⟨3, some 75, .move (.t 18), none⟩,
    ⟨4, some 76, .call 31 [.t 72, .t 73, .t 74, .t 75] [.c (.int .i64), .c (.int .i64)], none⟩,
    ⟨5, some 71, .move (.t 76), none⟩,
    ⟨6, some 77, .ext 71 0, none⟩,
    ⟨7, some 78, .ext 71 1, none⟩,
    ⟨8, some 20, .move (.t 77), none⟩,
    ⟨9, some 21, .move (.t 78), none⟩]) (.seq (.region [⟨0, some 80, .ldL 13 186 (.agg [.int .i64, .int .i64, .int .i64, .int .i64, .int .i64, .int .i64, .int .i64, .int .i64]), none⟩,
    ⟨1, some 81, .move (.t 16), none⟩,
    ⟨2, some 82, .move (.t 17), none⟩,
    ⟨3, some 83, .move (.t 18), none⟩,
    ⟨4, some 84, .call 31 [.t 80, .t 81, .t 82, .t 83] [.c (.int .i64), .c (.int .i64)], none⟩,
    ⟨5, some 79, .move (.t 84), none⟩,
    ⟨6, some 85, .ext 79 0, none⟩,
    ⟨7, some 86, .ext 79 1, none⟩,
    ⟨8, some 22, .move (.t 85), none⟩,
    ⟨9, some 23, .move (.t 86), none⟩]) (.seq (.seq (.region [⟨0, some 87, .move (.t 21), none⟩,
    ⟨1, some 88, .cmp .eql .i64 (.t 87) (.k (.c (.int .i64 0))), none⟩,
    ⟨2, some 89, .move (.t 88), none⟩,
    ⟨3, some 90, .move (.t 20), some (89, true)⟩,
    ⟨4, some 91, .cmp .lss .i64 (.t 90) (.k (.c (.int .i64 1))), some (89, true)⟩,
    ⟨5, some 92, .move (.t 91), some (89, true)⟩,
    ⟨6, some 93, .move (.t 15), some (92, false)⟩,
    ⟨7, some 94, .move (.t 20), some (92, false)⟩,
    ⟨8, some 95, .bin .add .i64 (.t 93) (.t 94), some (92, false)⟩,
    ⟨9, some 96, .faddr 13 2, some (92, false)⟩,
    ⟨10, some 97, .ldL 96 186 (.c (.int .i64)), some (92, false)⟩,
    ⟨11, some 98, .cmp .gtr .i64 (.t 95) (.t 97), some (92, false)⟩,
    ⟨12, some 99, .pick (.t 92) (.k (.c (.bool true))) (.t 98), some (89, true)⟩,
    ⟨13, some 100, .move (.t 99), some (89, true)⟩,
    ⟨14, some 101, .move (.t 23), some (100, false)⟩,
    ⟨15, some 102, .cmp .neq .i64 (.t 101) (.k (.c (.int .i64 0))), some (100, false)⟩,
    ⟨16, some 103, .pick (.t 100) (.k (.c (.bool true))) (.t 102), some (89, true)⟩,
    ⟨17, some 104, .move (.t 103), some (89, true)⟩,
    ⟨18, some 105, .move (.t 20), some (104, false)⟩,
    ⟨19, some 106, .move (.t 22), some (104, false)⟩,
    ⟨20, some 107, .cmp .neq .i64 (.t 105) (.t 106), some (104, false)⟩,
    ⟨21, some 108, .pick (.t 104) (.k (.c (.bool true))) (.t 107), some (89, true)⟩,
    ⟨22, some 109, .pick (.t 89) (.t 108) (.k (.c (.bool false))), none⟩,
    ⟨23, some 110, .move (.t 109), none⟩,
    ⟨24, some 111, .move (.t 21), some (110, false)⟩,
    ⟨25, some 112, .cmp .neq .i64 (.t 111) (.k (.c (.int .i64 0))), some (110, false)⟩,
    ⟨26, some 113, .move (.t 112), some (110, false)⟩,
    ⟨27, some 114, .move (.t 20), some (113, true)⟩,
    ⟨28, some 115, .cmp .neq .i64 (.t 114) (.k (.c (.int .i64 0))), some (113, true)⟩,
    ⟨29, some 116, .pick (.t 113) (.t 115) (.k (.c (.bool false))), some (110, false)⟩,
    ⟨30, some 117, .pick (.t 110) (.k (.c (.bool true))) (.t 116), none⟩,
    ⟨31, some 118, .move (.t 117), none⟩,
    ⟨32, some 119, .move (.t 21), some (118, false)⟩,
    ⟨33, some 120, .cmp .eql .i64 (.t 119) (.k (.c (.int .i64 5))), some (118, false)⟩,
    ⟨34, some 121, .move (.t 120), some (118, false)⟩,
    ⟨35, some 122, .move (.t 23), some (121, true)⟩,
    ⟨36, some 123, .cmp .eql .i64 (.t 122) (.k (.c (.int .i64 0))), some (121, true)⟩,
    ⟨37, some 124, .pick (.t 121) (.t 123) (.k (.c (.bool false))), some (118, false)⟩,
    ⟨38, some 125, .move (.t 124), some (118, false)⟩,
    ⟨39, some 126, .move (.t 15), some (125, true)⟩,
    ⟨40, some 127, .move (.t 22), some (125, true)⟩,
    ⟨41, some 128, .bin .add .i64 (.t 126) (.t 127), some (125, true)⟩,
    ⟨42, some 129, .faddr 13 2, some (125, true)⟩,
    ⟨43, some 130, .ldL 129 186 (.c (.int .i64)), some (125, true)⟩,
    ⟨44, some 131, .cmp .leq .i64 (.t 128) (.t 130), some (125, true)⟩,
    ⟨45, some 132, .pick (.t 125) (.t 131) (.k (.c (.bool false))), some (118, false)⟩,
    ⟨46, some 133, .pick (.t 118) (.k (.c (.bool true))) (.t 132), none⟩]) (.cut [13, 15, 16, 17, 19, 133, 186] hodmanlaw16_AdmitSums.c33)) hodmanlaw16_AdmitSums.c45))))))))))) }
def hodmanlaw16_AdmitSums.k45 (M : Mach) (C : Call) : Kont := execC M.j C (M.ag C) hodmanlaw16_AdmitSums.c45 ({ exits := [], ret := retK hodmanlaw16_AdmitSums.d } : Env) (retK hodmanlaw16_AdmitSums.d)
def hodmanlaw16_AdmitSums.J33 (M : Mach) (C : Call) (t15 : Int) (t16 : Int) (t17 : Int) (t19 : Int) (t133 : Bool) (x186_0 : Int) (x186_1 : Int) (x186_2 : Int) (x186_3 : Int) (x186_4 : Int) (x186_5 : Int) (x186_6 : Int) (x186_7 : Int) (G : GH) : Option Res := M.j (execC M.j C (M.ag C) hodmanlaw16_AdmitSums.c33 ({ exits := [], ret := retK hodmanlaw16_AdmitSums.d } : Env) (hodmanlaw16_AdmitSums.k45 M C)) [.und, .und, .und, .und, .und, .und, .und, .und, .und, .und, .und, .und, .und, .ref 186 0, .und, .v (.c (.int .i64 t15)), .v (.c (.int .i64 t16)), .v (.c (.int .i64 t17)), .und, .v (.c (.int .i64 t19)), .und, .und, .und, .und, .und, .und, .und, .und, .und, .und, .und, .und, .und, .und, .und, .und, .und, .und, .und, .und, .und, .und, .und, .und, .und, .und, .und, .und, .und, .und, .und, .und, .und, .und, .und, .und, .und, .und, .und, .und, .und, .und, .und, .und, .und, .und, .und, .und, .und, .und, .und, .und, .und, .und, .und, .und, .und, .und, .und, .und, .und, .und, .und, .und, .und, .und, .und, .und, .und, .und, .und, .und, .und, .und, .und, .und, .und, .und, .und, .und, .und, .und, .und, .und, .und, .und, .und, .und, .und, .und, .und, .und, .und, .und, .und, .und, .und, .und, .und, .und, .und, .und, .und, .und, .und, .und, .und, .und, .und, .und, .und, .und, .und, .v (.c (.bool t133)), .und, .und, .und, .und, .und, .und, .und, .und, .und, .und, .und, .und, .und, .und, .und, .und, .und, .und, .und, .und, .und, .und, .und, .und, .und, .und, .und, .und, .und, .und, .und, .und, .und, .und, .und, .und, .und, .und, .und, .und, .und, .und, .und, .und, .und, .und, .und, .und, .und, .und, .und, .und, .box [.int .i64 x186_0, .int .i64 x186_1, .int .i64 x186_2, .int .i64 x186_3, .int .i64 x186_4, .int .i64 x186_5, .int .i64 x186_6, .int .i64 x186_7], .und] G
theorem hodmanlaw16_AdmitSums.J33_eq (M : Mach) (C : Call) (t15 : Int) (t16 : Int) (t17 : Int) (t19 : Int) (t133 : Bool) (x186_0 : Int) (x186_1 : Int) (x186_2 : Int) (x186_3 : Int) (x186_4 : Int) (x186_5 : Int) (x186_6 : Int) (x186_7 : Int) (G : GH) : hodmanlaw16_AdmitSums.J33 M C t15 t16 t17 t19 t133 x186_0 x186_1 x186_2 x186_3 x186_4 x186_5 x186_6 x186_7 G = (bif t133 then some ([.c (.bool false)], G) else (C admit_Many.id [.agg [.int .i64 x186_0, .int .i64 x186_1, .int .i64 x186_2, .int .i64 x186_3, .int .i64 x186_4, .int .i64 x186_5, .int .i64 x186_6, .int .i64 x186_7], .c (.int .i64 t15), .c (.int .i64 t19), .c (.int .i64 t17)] G).bind fun qr_32 => (((qr_32.1[0]?).bind V1.c?).bind (Cell.asI .i64)).bind fun qx_33 => (((qr_32.1[1]?).bind V1.c?).bind (Cell.asI .i64)).bind fun qx_34 => (C admit_New.id [.agg [.int .i64 x186_0, .int .i64 x186_1, .int .i64 x186_2, .int .i64 x186_3, .int .i64 x186_4, .int .i64 x186_5, .int .i64 x186_6, .int .i64 x186_7], .c (.int .i64 t15), .c (.int .i64 (IntKind.i64.wrap (t19 * t17))), .c (.int .i64 1)] qr_32.2).bind fun qr_35 => (((qr_35.1[0]?).bind V1.c?).bind (Cell.asI .i64)).bind fun qx_36 => (((qr_35.1[1]?).bind V1.c?).bind (Cell.asI .i64)).bind fun qx_37 => (C admit_Anew.id [.agg [.int .i64 x186_0, .int .i64 x186_1, .int .i64 x186_2, .int .i64 x186_3, .int .i64 x186_4, .int .i64 x186_5, .int .i64 x186_6, .int .i64 x186_7], .c (.int .i64 t15), .c (.int .i64 (IntKind.i64.wrap (t15 - t16))), .c (.int .i64 t17)] qr_35.2).bind fun qr_38 => (((qr_38.1[0]?).bind V1.c?).bind (Cell.asI .i64)).bind fun qx_39 => (((qr_38.1[1]?).bind V1.c?).bind (Cell.asI .i64)).bind fun qx_40 => (C admit_New.id [.agg [.int .i64 x186_0, .int .i64 x186_1, .int .i64 x186_2, .int .i64 x186_3, .int .i64 x186_4, .int .i64 x186_5, .int .i64 x186_6, .int .i64 x186_7], .c (.int .i64 t16), .c (.int .i64 t17), .c (.int .i64 1)] qr_38.2).bind fun qr_41 => (((qr_41.1[0]?).bind V1.c?).bind (Cell.asI .i64)).bind fun qx_42 => (((qr_41.1[1]?).bind V1.c?).bind (Cell.asI .i64)).bind fun qx_43 => bif decide (qx_33 = qx_36) then bif decide (qx_34 = qx_37) then bif decide (qx_39 = qx_42) then some ([.c (.bool (decide (qx_40 = qx_43)))], qr_41.2) else some ([.c (.bool false)], qr_41.2) else some ([.c (.bool false)], qr_41.2) else some ([.c (.bool false)], qr_41.2)) := (M.hj _ _ _).trans (by kernel_rfl)
def hodmanlaw16_AdmitSums.f (M : Mach) (C : Call) (t0i : Nat) (t0o : Nat) (t0n : Nat) (o1 : Int) (A2 : Int) (r3 : Int) (r4 : Int) (a5 : Int) (G : GH) : Option Res := (C hodmanlaw16_begun.id [] G).bind fun qr_1 => (((qr_1.1[0]?).bind V1.c?).bind Cell.asB).bind fun qb_2 => bif (!qb_2) then some ([.c (.bool false)], qr_1.2) else bif decide (((t0n : Nat) : Int) > 6) then some ([.c (.bool true)], qr_1.2) else (C hodmanplay_Made.id [.c (.sl 1 t0i t0o t0n)] qr_1.2).bind fun qr_3 => (((qr_3.1[0]?).bind V1.c?).bind Cell.asP).bind fun qp_4 => (C hodmanplay_Picks_Conf.id [.c (.ptr qp_4.1 qp_4.2), .c (.bool false)] qr_3.2).bind fun qr_5 => ((qr_5.1[0]?).bind V1.a?).bind fun qcs_6 => if qcs_6.length = 8 then (((qcs_6[0]?).bind (Cell.asI .i64)).bind fun qx_7 => ((qcs_6[1]?).bind (Cell.asI .i64)).bind fun qx_8 => ((qcs_6[2]?).bind (Cell.asI .i64)).bind fun qx_9 => ((qcs_6[3]?).bind (Cell.asI .i64)).bind fun qx_10 => ((qcs_6[4]?).bind (Cell.asI .i64)).bind fun qx_11 => ((qcs_6[5]?).bind (Cell.asI .i64)).bind fun qx_12 => ((qcs_6[6]?).bind (Cell.asI .i64)).bind fun qx_13 => ((qcs_6[7]?).bind (Cell.asI .i64)).bind fun qx_14 => ((qr_5.1[1]?).bind V1.a?).bind fun qcs_15 => if qcs_15.length = 6 then (((qcs_15[0]?).bind (Cell.asI .i64)).bind fun qx_16 => ((qcs_15[1]?).bind (Cell.asI .i64)).bind fun qx_17 => ((qcs_15[2]?).bind (Cell.asI .i64)).bind fun qx_18 => ((qcs_15[3]?).bind (Cell.asI .i64)).bind fun qx_19 => ((qcs_15[4]?).bind (Cell.asI .i64)).bind fun qx_20 => ((qcs_15[5]?).bind (Cell.asI .i64)).bind fun qx_21 => bif decide (qx_7 = 0) then some ([.c (.bool true)], qr_5.2) else (binD .rem .i64 (IntKind.i64.wrap o1) (IntKind.i64.wrap (qx_9 + 1))).bind fun qx_22 => (binD .rem .i64 (IntKind.i64.wrap A2) (IntKind.i64.wrap (qx_22 + 1))).bind fun qx_23 => (binD .rem .i64 (IntKind.i64.wrap r3) (IntKind.i64.wrap (qx_8 + 2))).bind fun qx_24 => (binD .shl .i64 1 (Int.tmod r4 6)).bind fun qx_25 => (C admit_New.id [.agg [.int .i64 qx_7, .int .i64 qx_8, .int .i64 qx_9, .int .i64 qx_10, .int .i64 qx_11, .int .i64 qx_12, .int .i64 qx_13, .int .i64 qx_14], .c (.int .i64 qx_22), .c (.int .i64 qx_24), .c (.int .i64 qx_25)] qr_5.2).bind fun qr_26 => (((qr_26.1[0]?).bind V1.c?).bind (Cell.asI .i64)).bind fun qx_27 => (((qr_26.1[1]?).bind V1.c?).bind (Cell.asI .i64)).bind fun qx_28 => (C admit_New.id [.agg [.int .i64 qx_7, .int .i64 qx_8, .int .i64 qx_9, .int .i64 qx_10, .int .i64 qx_11, .int .i64 qx_12, .int .i64 qx_13, .int .i64 qx_14], .c (.int .i64 (IntKind.i64.wrap (qx_22 - qx_23))), .c (.int .i64 qx_24), .c (.int .i64 qx_25)] qr_26.2).bind fun qr_29 => (((qr_29.1[0]?).bind V1.c?).bind (Cell.asI .i64)).bind fun qx_30 => (((qr_29.1[1]?).bind V1.c?).bind (Cell.asI .i64)).bind fun qx_31 => bif decide (qx_28 = 0) then bif decide (qx_27 < 1) then hodmanlaw16_AdmitSums.J33 M C qx_22 (IntKind.i64.wrap (qx_22 - qx_23)) qx_24 (IntKind.i64.wrap (Int.tmod a5 5)) true qx_7 qx_8 qx_9 qx_10 qx_11 qx_12 qx_13 qx_14 qr_29.2 else bif decide (IntKind.i64.wrap (qx_22 + qx_27) > qx_9) then hodmanlaw16_AdmitSums.J33 M C qx_22 (IntKind.i64.wrap (qx_22 - qx_23)) qx_24 (IntKind.i64.wrap (Int.tmod a5 5)) true qx_7 qx_8 qx_9 qx_10 qx_11 qx_12 qx_13 qx_14 qr_29.2 else bif (!decide (qx_31 = 0)) then hodmanlaw16_AdmitSums.J33 M C qx_22 (IntKind.i64.wrap (qx_22 - qx_23)) qx_24 (IntKind.i64.wrap (Int.tmod a5 5)) true qx_7 qx_8 qx_9 qx_10 qx_11 qx_12 qx_13 qx_14 qr_29.2 else bif (!decide (qx_27 = qx_30)) then hodmanlaw16_AdmitSums.J33 M C qx_22 (IntKind.i64.wrap (qx_22 - qx_23)) qx_24 (IntKind.i64.wrap (Int.tmod a5 5)) true qx_7 qx_8 qx_9 qx_10 qx_11 qx_12 qx_13 qx_14 qr_29.2 else bif (!decide (qx_28 = 0)) then bif (!decide (qx_27 = 0)) then hodmanlaw16_AdmitSums.J33 M C qx_22 (IntKind.i64.wrap (qx_22 - qx_23)) qx_24 (IntKind.i64.wrap (Int.tmod a5 5)) true qx_7 qx_8 qx_9 qx_10 qx_11 qx_12 qx_13 qx_14 qr_29.2 else bif decide (qx_28 = 5) then bif decide (qx_31 = 0) then hodmanlaw16_AdmitSums.J33 M C qx_22 (IntKind.i64.wrap (qx_22 - qx_23)) qx_24 (IntKind.i64.wrap (Int.tmod a5 5)) (decide (IntKind.i64.wrap (qx_22 + qx_30) ≤ qx_9)) qx_7 qx_8 qx_9 qx_10 qx_11 qx_12 qx_13 qx_14 qr_29.2 else hodmanlaw16_AdmitSums.J33 M C qx_22 (IntKind.i64.wrap (qx_22 - qx_23)) qx_24 (IntKind.i64.wrap (Int.tmod a5 5)) false qx_7 qx_8 qx_9 qx_10 qx_11 qx_12 qx_13 qx_14 qr_29.2 else hodmanlaw16_AdmitSums.J33 M C qx_22 (IntKind.i64.wrap (qx_22 - qx_23)) qx_24 (IntKind.i64.wrap (Int.tmod a5 5)) false qx_7 qx_8 qx_9 qx_10 qx_11 qx_12 qx_13 qx_14 qr_29.2 else bif decide (qx_28 = 5) then bif decide (qx_31 = 0) then hodmanlaw16_AdmitSums.J33 M C qx_22 (IntKind.i64.wrap (qx_22 - qx_23)) qx_24 (IntKind.i64.wrap (Int.tmod a5 5)) (decide (IntKind.i64.wrap (qx_22 + qx_30) ≤ qx_9)) qx_7 qx_8 qx_9 qx_10 qx_11 qx_12 qx_13 qx_14 qr_29.2 else hodmanlaw16_AdmitSums.J33 M C qx_22 (IntKind.i64.wrap (qx_22 - qx_23)) qx_24 (IntKind.i64.wrap (Int.tmod a5 5)) false qx_7 qx_8 qx_9 qx_10 qx_11 qx_12 qx_13 qx_14 qr_29.2 else hodmanlaw16_AdmitSums.J33 M C qx_22 (IntKind.i64.wrap (qx_22 - qx_23)) qx_24 (IntKind.i64.wrap (Int.tmod a5 5)) false qx_7 qx_8 qx_9 qx_10 qx_11 qx_12 qx_13 qx_14 qr_29.2 else bif (!decide (qx_28 = 0)) then bif (!decide (qx_27 = 0)) then hodmanlaw16_AdmitSums.J33 M C qx_22 (IntKind.i64.wrap (qx_22 - qx_23)) qx_24 (IntKind.i64.wrap (Int.tmod a5 5)) true qx_7 qx_8 qx_9 qx_10 qx_11 qx_12 qx_13 qx_14 qr_29.2 else bif decide (qx_28 = 5) then bif decide (qx_31 = 0) then hodmanlaw16_AdmitSums.J33 M C qx_22 (IntKind.i64.wrap (qx_22 - qx_23)) qx_24 (IntKind.i64.wrap (Int.tmod a5 5)) (decide (IntKind.i64.wrap (qx_22 + qx_30) ≤ qx_9)) qx_7 qx_8 qx_9 qx_10 qx_11 qx_12 qx_13 qx_14 qr_29.2 else hodmanlaw16_AdmitSums.J33 M C qx_22 (IntKind.i64.wrap (qx_22 - qx_23)) qx_24 (IntKind.i64.wrap (Int.tmod a5 5)) false qx_7 qx_8 qx_9 qx_10 qx_11 qx_12 qx_13 qx_14 qr_29.2 else hodmanlaw16_AdmitSums.J33 M C qx_22 (IntKind.i64.wrap (qx_22 - qx_23)) qx_24 (IntKind.i64.wrap (Int.tmod a5 5)) false qx_7 qx_8 qx_9 qx_10 qx_11 qx_12 qx_13 qx_14 qr_29.2 else bif decide (qx_28 = 5) then bif decide (qx_31 = 0) then hodmanlaw16_AdmitSums.J33 M C qx_22 (IntKind.i64.wrap (qx_22 - qx_23)) qx_24 (IntKind.i64.wrap (Int.tmod a5 5)) (decide (IntKind.i64.wrap (qx_22 + qx_30) ≤ qx_9)) qx_7 qx_8 qx_9 qx_10 qx_11 qx_12 qx_13 qx_14 qr_29.2 else hodmanlaw16_AdmitSums.J33 M C qx_22 (IntKind.i64.wrap (qx_22 - qx_23)) qx_24 (IntKind.i64.wrap (Int.tmod a5 5)) false qx_7 qx_8 qx_9 qx_10 qx_11 qx_12 qx_13 qx_14 qr_29.2 else hodmanlaw16_AdmitSums.J33 M C qx_22 (IntKind.i64.wrap (qx_22 - qx_23)) qx_24 (IntKind.i64.wrap (Int.tmod a5 5)) false qx_7 qx_8 qx_9 qx_10 qx_11 qx_12 qx_13 qx_14 qr_29.2) else none) else none
theorem hodmanlaw16_AdmitSums.eq (M : Mach) (C : Call) (t0i : Nat) (t0o : Nat) (t0n : Nat) (o1 : Int) (A2 : Int) (r3 : Int) (r4 : Int) (a5 : Int) (G : GH) : runF M C hodmanlaw16_AdmitSums.d [.c (.sl 1 t0i t0o t0n), .c (.int .u16 o1), .c (.int .u16 A2), .c (.int .u8 r3), .c (.int .u8 r4), .c (.int .u8 a5)] G = hodmanlaw16_AdmitSums.f M C t0i t0o t0n o1 A2 r3 r4 a5 G := by kernel_rfl

/- 23 hodman/hodmanref1.Of -/
def hodmanref1_Of.c13 : DCode := (.cond (.t 31) (.seq (.region [⟨0, some 32, .build [.int .i64 0, .int .i64 0, .int .i64 0, .int .i64 0, .int .i64 0, .int .i64 0, .int .i64 0, .int .i64 0] [], none⟩,
    ⟨1, none, .stL 2 123 (.t 32) 8, none⟩,
    ⟨2, some 3, .move (.k (.c (.int .i64 1))), none⟩]) .ret) .skip)
def hodmanref1_Of.c16 : DCode := (.region [⟨0, some 18, .move (.t 5), none⟩,
    ⟨1, some 19, .bin .add .i64 (.t 18) (.k (.c (.int .i64 1))), none⟩,
    ⟨2, some 5, .move (.t 19), none⟩])
def hodmanref1_Of.c18 : DCode := (.seq (.seq (.region [⟨0, some 16, .move (.t 5), none⟩,
    ⟨1, some 17, .cmp .lss .i64 (.t 16) (.k (.c (.int .i64 4))), none⟩]) (.cond (.t 17) .skip (.exit 0))) (.seq (.block 1 (.seq (.region [⟨0, some 20, .move (.t 4), none⟩,
    ⟨1, some 21, .move (.t 5), none⟩,
    ⟨2, some 22, .iaddr (.t 20) (.t 21) 1, none⟩,
    ⟨3, some 23, .ldG 22 (.c (.int .i64)), none⟩,
    ⟨4, some 24, .cmp .lss .i64 (.t 23) (.k (.c (.int .i64 1))), none⟩,
    ⟨5, some 25, .move (.t 24), none⟩,
    ⟨6, some 26, .move (.t 4), some (25, false)⟩,
    ⟨7, some 27, .move (.t 5), some (25, false)⟩,
    ⟨8, some 28, .iaddr (.t 26) (.t 27) 1, some (25, false)⟩,
    ⟨9, some 29, .ldG 28 (.c (.int .i64)), some (25, false)⟩,
    ⟨10, some 30, .cmp .gtr .i64 (.t 29) (.k (.c (.int .i64 65536))), some (25, false)⟩,
    ⟨11, some 31, .pick (.t 25) (.k (.c (.bool true))) (.t 30), none⟩]) (.cut [1, 2, 4, 5, 31, 122, 123] hodmanref1_Of.c13))) hodmanref1_Of.c16))
def hodmanref1_Of.c19 : DCode := (.loop [1, 2, 4, 5, 122, 123] hodmanref1_Of.c18)
def hodmanref1_Of.c27 : DCode := (.cond (.t 50) (.seq (.region [⟨0, some 51, .build [.int .i64 0, .int .i64 0, .int .i64 0, .int .i64 0, .int .i64 0, .int .i64 0, .int .i64 0, .int .i64 0] [], none⟩,
    ⟨1, none, .stL 2 123 (.t 51) 8, none⟩,
    ⟨2, some 3, .move (.k (.c (.int .i64 1))), none⟩]) .ret) .skip)
def hodmanref1_Of.c53 : DCode := (.seq (.region [⟨0, some 52, .faddr 1 4, none⟩,
    ⟨1, some 53, .ldL 52 122 (.c (.int .i64)), none⟩,
    ⟨2, some 54, .faddr 1 5, none⟩,
    ⟨3, some 55, .ldL 54 122 (.c (.int .i64)), none⟩,
    ⟨4, some 56, .build [.int .i64 0, .int .i64 0, .int .i64 0, .int .i64 0, .int .i64 0, .int .i64 0, .int .i64 0, .int .i64 0] [(5, 1, .t 53), (7, 1, .t 55)], none⟩,
    ⟨5, some 6, .boxz 124 [63, 67, 73, 77, 83, 87, 89, 96, 98, 100, 106, 107, 109, 111, 116, 117] [.int .i64 0, .int .i64 0, .int .i64 0, .int .i64 0, .int .i64 0, .int .i64 0, .int .i64 0, .int .i64 0], none⟩,
    ⟨6, none, .stL 6 124 (.t 56) 8, none⟩]) (.seq (.region [⟨0, some 58, .faddr 1 0, none⟩,
    ⟨1, some 59, .ldL 58 122 (.c (.int .i64)), none⟩,
    ⟨2, some 60, .call 40 [.t 59] [.c (.int .i64), .c (.bool)], none⟩,
    ⟨3, some 57, .move (.t 60), none⟩,
    ⟨4, some 61, .ext 57 0, none⟩,
    ⟨5, some 62, .ext 57 1, none⟩,
    ⟨6, some 63, .faddr 6 0, none⟩,
    ⟨7, none, .stL 63 124 (.t 61) 1, none⟩]) (.seq (.region [⟨0, some 65, .faddr 1 1, none⟩,
    ⟨1, some 66, .ldL 65 122 (.c (.int .i64)), none⟩,
    ⟨2, some 67, .faddr 6 0, none⟩,
    ⟨3, some 68, .ldL 67 124 (.c (.int .i64)), none⟩,
    ⟨4, some 69, .mx (.t 66) [.t 68], none⟩,
    ⟨5, some 70, .call 40 [.t 69] [.c (.int .i64), .c (.bool)], none⟩,
    ⟨6, some 64, .move (.t 70), none⟩,
    ⟨7, some 71, .ext 64 0, none⟩,
    ⟨8, some 72, .ext 64 1, none⟩,
    ⟨9, some 73, .faddr 6 1, none⟩,
    ⟨10, none, .stL 73 124 (.t 71) 1, none⟩]) (.seq (.region [⟨0, some 75, .faddr 1 3, none⟩,
    ⟨1, some 76, .ldL 75 122 (.c (.int .i64)), none⟩,
    ⟨2, some 77, .faddr 6 0, none⟩,
    ⟨3, some 78, .ldL 77 124 (.c (.int .i64)), none⟩,
    ⟨4, some 79, .mx (.t 76) [.t 78], none⟩,
    ⟨5, some 80, .call 40 [.t 79] [.c (.int .i64), .c (.bool)], none⟩,
    ⟨6, some 74, .move (.t 80), none⟩,
    ⟨7, some 81, .ext 74 0, none⟩,
    ⟨8, some 82, .ext 74 1, none⟩,
    ⟨9, some 83, .faddr 6 4, none⟩,
    ⟨10, none, .stL 83 124 (.t 81) 1, none⟩]) (.seq (.region [⟨0, some 85, .faddr 1 2, none⟩,
    ⟨1, some 86, .ldL 85 122 (.c (.int .i64)), none⟩,
    ⟨2, some 87, .faddr 6 1, none⟩,
    ⟨3, some 88, .ldL 87 124 (.c (.int .i64)), none⟩,
    ⟨4, some 89, .faddr 6 4, none⟩,
    ⟨5, some 90, .ldL 89 124 (.c (.int .i64)), none⟩,
    ⟨6, some 91, .mx (.t 88) [.t 90], none⟩,
    ⟨7, some 92, .bin .mul .i64 (.k (.c (.int .i64 2))) (.t 91), none⟩,
    ⟨8, some 93, .call 44 [.t 86, .t 92] [.c (.int .i64), .c (.bool)], none⟩,
    ⟨9, some 84, .move (.t 93), none⟩,
    ⟨10, some 94, .ext 84 0, none⟩,
    ⟨11, some 95, .ext 84 1, none⟩,
    ⟨12, some 96, .faddr 6 2, none⟩,
    ⟨13, none, .stL 96 124 (.t 94) 1, none⟩]) (.seq (.region [⟨0, some 98, .faddr 6 1, none⟩,
    ⟨1, some 99, .ldL 98 124 (.c (.int .i64)), none⟩,
    ⟨2, some 100, .faddr 6 0, none⟩,
    ⟨3, some 101, .ldL 100 124 (.c (.int .i64)), none⟩,
    ⟨4, some 102, .bin .quo .i64 (.t 99) (.t 101), none⟩,
    ⟨5, some 103, .call 39 [.t 102] [.c (.int .i64), .c (.bool)], none⟩,
    ⟨6, some 97, .move (.t 103), none⟩,
    ⟨7, some 104, .ext 97 0, none⟩,
    ⟨8, some 105, .ext 97 1, none⟩,
    ⟨9, some 106, .faddr 6 3, none⟩,
    ⟨10, none, .stL 106 124 (.t 104) 1, none⟩]) (.seq (.region [⟨0, some 107, .faddr 6 2, none⟩,
    ⟨1, some 108, .ldL 107 124 (.c (.int .i64)), none⟩,
    ⟨2, some 109, .faddr 6 3, none⟩,
    ⟨3, some 110, .ldL 109 124 (.c (.int .i64)), none⟩,
    ⟨4, some 111, .faddr 6 2, none⟩,
    ⟨5, some 112, .ldL 111 124 (.c (.int .i64)), none⟩,
    ⟨6, some 113, .bin .quo .i64 (.t 112) (.k (.c (.int .i64 2))), none⟩,
    ⟨7, some 114, .bin .mul .i64 (.t 110) (.t 113), none⟩,
    ⟨8, some 115, .bin .add .i64 (.t 108) (.t 114), none⟩,
    ⟨9, some 116, .faddr 6 6, none⟩,
    ⟨10, none, .stL 116 124 (.t 115) 1, none⟩]) (.seq (.seq (.region [⟨0, some 117, .faddr 6 6, none⟩,
    ⟨1, some 118, .ldL 117 124 (.c (.int .i64)), none⟩,
    ⟨2, some 119, .cmp .gtr .i64 (.t 118) (.k (.c (.int .i64 65536))), none⟩]) (.cond (.t 119) (.seq (.region [⟨0, some 120, .build [.int .i64 0, .int .i64 0, .int .i64 0, .int .i64 0, .int .i64 0, .int .i64 0, .int .i64 0, .int .i64 0] [], none⟩,
    ⟨1, none, .stL 2 123 (.t 120) 8, none⟩,
    ⟨2, some 3, .move (.k (.c (.int .i64 1))), none⟩]) .ret) .skip)) (.seq (.region [⟨0, some 121, .ldL 6 124 (.agg [.int .i64, .int .i64, .int .i64, .int .i64, .int .i64, .int .i64, .int .i64, .int .i64]), none⟩,
    ⟨1, none, .stL 2 123 (.t 121) 8, none⟩,
    ⟨2, some 3, .move (.k (.c (.int .i64 0))), none⟩]) .ret)))))))))
def hodmanref1_Of.c54 : DCode := (.seq (.seq (.region [⟨0, some 33, .faddr 1 4, none⟩,
    ⟨1, some 34, .ldL 33 122 (.c (.int .i64)), none⟩,
    ⟨2, some 35, .cmp .lss .i64 (.t 34) (.k (.c (.int .i64 0))), none⟩,
    ⟨3, some 36, .move (.t 35), none⟩,
    ⟨4, some 37, .faddr 1 4, some (36, false)⟩,
    ⟨5, some 38, .ldL 37 122 (.c (.int .i64)), some (36, false)⟩,
    ⟨6, some 39, .cmp .gtr .i64 (.t 38) (.k (.c (.int .i64 65536))), some (36, false)⟩,
    ⟨7, some 40, .pick (.t 36) (.k (.c (.bool true))) (.t 39), none⟩,
    ⟨8, some 41, .move (.t 40), none⟩,
    ⟨9, some 42, .faddr 1 5, some (41, false)⟩,
    ⟨10, some 43, .ldL 42 122 (.c (.int .i64)), some (41, false)⟩,
    ⟨11, some 44, .cmp .lss .i64 (.t 43) (.k (.c (.int .i64 0))), some (41, false)⟩,
    ⟨12, some 45, .pick (.t 41) (.k (.c (.bool true))) (.t 44), none⟩,
    ⟨13, some 46, .move (.t 45), none⟩,
    ⟨14, some 47, .faddr 1 5, some (46, false)⟩,
    ⟨15, some 48, .ldL 47 122 (.c (.int .i64)), some (46, false)⟩,
    ⟨16, some 49, .cmp .gtr .i64 (.t 48) (.k (.c (.int .i64 255))), some (46, false)⟩,
    ⟨17, some 50, .pick (.t 46) (.k (.c (.bool true))) (.t 49), none⟩]) (.cut [1, 2, 50, 122, 123] hodmanref1_Of.c27)) hodmanref1_Of.c53)
def hodmanref1_Of.d : DFn := { ntmps := 125, res := [.box 2 (some 8), .t 3], body := (.seq (.region [⟨0, some 1, .boxv 122 [7, 9, 11, 13, 33, 37, 42, 47, 52, 54, 58, 65, 75, 85] (.t 0) 6, none⟩,
    ⟨1, some 2, .boxz 123 [] [.int .i64 0, .int .i64 0, .int .i64 0, .int .i64 0, .int .i64 0, .int .i64 0, .int .i64 0, .int .i64 0], none⟩,
    ⟨2, some 3, .move (.k (.c (.int .i64 0))), none⟩]) (.seq (.region [⟨0, some 7, .faddr 1 0, none⟩,
    ⟨1, some 8, .ldL 7 122 (.c (.int .i64)), none⟩,
    ⟨2, some 9, .faddr 1 1, none⟩,
    ⟨3, some 10, .ldL 9 122 (.c (.int .i64)), none⟩,
    ⟨4, some 11, .faddr 1 2, none⟩,
    ⟨5, some 12, .ldL 11 122 (.c (.int .i64)), none⟩,
    ⟨6, some 13, .faddr 1 3, none⟩,
    ⟨7, some 14, .ldL 13 122 (.c (.int .i64)), none⟩,
    ⟨8, some 15, .bslice 4 1 [.int .i64 0, .int .i64 0, .int .i64 0, .int .i64 0] [(0, 1, .t 8), (1, 1, .t 10), (2, 1, .t 12), (3, 1, .t 14)], none⟩,
    ⟨9, some 4, .move (.t 15), none⟩]) (.seq (.seq (.region [⟨0, some 5, .move (.k (.c (.int .i64 0))), none⟩]) (.block 0 hodmanref1_Of.c19)) hodmanref1_Of.c54))) }
def hodmanref1_Of.k54 (M : Mach) (C : Call) : Kont := execC M.j C (M.ag C) hodmanref1_Of.c54 ({ exits := [], ret := retK hodmanref1_Of.d } : Env) (retK hodmanref1_Of.d)
def hodmanref1_Of.e20 (M : Mach) (C : Call) : Env := { exits := (0, (hodmanref1_Of.k54 M C)) :: (({ exits := [], ret := retK hodmanref1_Of.d } : Env)).exits, ret := (({ exits := [], ret := retK hodmanref1_Of.d } : Env)).ret }
def hodmanref1_Of.L19 (M : Mach) (C : Call) (l4i : Nat) (l4o : Nat) (l4n : Nat) (i5 : Int) (r122_0 : Int) (r122_1 : Int) (r122_2 : Int) (r122_3 : Int) (r122_4 : Int) (r122_5 : Int) (x123_0 : Int) (x123_1 : Int) (x123_2 : Int) (x123_3 : Int) (x123_4 : Int) (x123_5 : Int) (x123_6 : Int) (x123_7 : Int) (G : GH) : Option Res := M.ag C [1, 2, 4, 5, 122, 123] hodmanref1_Of.c18 (hodmanref1_Of.e20 M C) (hodmanref1_Of.k54 M C) [.und, .ref 122 0, .ref 123 0, .und, .v (.c (.sl 1 l4i l4o l4n)), .v (.c (.int .i64 i5)), .und, .und, .und, .und, .und, .und, .und, .und, .und, .und, .und, .und, .und, .und, .und, .und, .und, .und, .und, .und, .und, .und, .und, .und, .und, .und, .und, .und, .und, .und, .und, .und, .und, .und, .und, .und, .und, .und, .und, .und, .und, .und, .und, .und, .und, .und, .und, .und, .und, .und, .und, .und, .und, .und, .und, .und, .und, .und, .und, .und, .und, .und, .und, .und, .und, .und, .und, .und, .und, .und, .und, .und, .und, .und, .und, .und, .und, .und, .und, .und, .und, .und, .und, .und, .und, .und, .und, .und, .und, .und, .und, .und, .und, .und, .und, .und, .und, .und, .und, .und, .und, .und, .und, .und, .und, .und, .und, .und, .und, .und, .und, .und, .und, .und, .und, .und, .box [.int .i64 r122_0, .int .i64 r122_1, .int .i64 r122_2, .int .i64 r122_3, .int .i64 r122_4, .int .i64 r122_5], .box [.int .i64 x123_0, .int .i64 x123_1, .int .i64 x123_2, .int .i64 x123_3, .int .i64 x123_4, .int .i64 x123_5, .int .i64 x123_6, .int .i64 x123_7], .und] G
def hodmanref1_Of.k19 (M : Mach) (C : Call) : Kont := fun tm G => M.ag C [1, 2, 4, 5, 122, 123] hodmanref1_Of.c18 (hodmanref1_Of.e20 M C) (hodmanref1_Of.k54 M C) (restr [1, 2, 4, 5, 122, 123] 0 tm) G
def hodmanref1_Of.k16 (M : Mach) (C : Call) : Kont := execC M.j C (M.ag C) hodmanref1_Of.c16 (hodmanref1_Of.e20 M C) (hodmanref1_Of.k19 M C)
def hodmanref1_Of.e15 (M : Mach) (C : Call) : Env := { exits := (1, (hodmanref1_Of.k16 M C)) :: ((hodmanref1_Of.e20 M C)).exits, ret := ((hodmanref1_Of.e20 M C)).ret }
def hodmanref1_Of.J13 (M : Mach) (C : Call) (l4i : Nat) (l4o : Nat) (l4n : Nat) (i5 : Int) (t31 : Bool) (r122_0 : Int) (r122_1 : Int) (r122_2 : Int) (r122_3 : Int) (r122_4 : Int) (r122_5 : Int) (x123_0 : Int) (x123_1 : Int) (x123_2 : Int) (x123_3 : Int) (x123_4 : Int) (x123_5 : Int) (x123_6 : Int) (x123_7 : Int) (G : GH) : Option Res := M.j (execC M.j C (M.ag C) hodmanref1_Of.c13 (hodmanref1_Of.e15 M C) (hodmanref1_Of.k16 M C)) [.und, .ref 122 0, .ref 123 0, .und, .v (.c (.sl 1 l4i l4o l4n)), .v (.c (.int .i64 i5)), .und, .und, .und, .und, .und, .und, .und, .und, .und, .und, .und, .und, .und, .und, .und, .und, .und, .und, .und, .und, .und, .und, .und, .und, .und, .v (.c (.bool t31)), .und, .und, .und, .und, .und, .und, .und, .und, .und, .und, .und, .und, .und, .und, .und, .und, .und, .und, .und, .und, .und, .und, .und, .und, .und, .und, .und, .und, .und, .und, .und, .und, .und, .und, .und, .und, .und, .und, .und, .und, .und, .und, .und, .und, .und, .und, .und, .und, .und, .und, .und, .und, .und, .und, .und, .und, .und, .und, .und, .und, .und, .und, .und, .und, .und, .und, .und, .und, .und, .und, .und, .und, .und, .und, .und, .und, .und, .und, .und, .und, .und, .und, .und, .und, .und, .und, .und, .und, .und, .und, .box [.int .i64 r122_0, .int .i64 r122_1, .int .i64 r122_2, .int .i64 r122_3, .int .i64 r122_4, .int .i64 r122_5], .box [.int .i64 x123_0, .int .i64 x123_1, .int .i64 x123_2, .int .i64 x123_3, .int .i64 x123_4, .int .i64 x123_5, .int .i64 x123_6, .int .i64 x123_7], .und] G
def hodmanref1_Of.k53 (M : Mach) (C : Call) : Kont := execC M.j C (M.ag C) hodmanref1_Of.c53 ({ exits := [], ret := retK hodmanref1_Of.d } : Env) (retK hodmanref1_Of.d)
def hodmanref1_Of.J27 (M : Mach) (C : Call) (t50 : Bool) (r122_0 : Int) (r122_1 : Int) (r122_2 : Int) (r122_3 : Int) (r122_4 : Int) (r122_5 : Int) (x123_0 : Int) (x123_1 : Int) (x123_2 : Int) (x123_3 : Int) (x123_4 : Int) (x123_5 : Int) (x123_6 : Int) (x123_7 : Int) (G : GH) : Option Res := M.j (execC M.j C (M.ag C) hodmanref1_Of.c27 ({ exits := [], ret := retK hodmanref1_Of.d } : Env) (hodmanref1_Of.k53 M C)) [.und, .ref 122 0, .ref 123 0, .und, .und, .und, .und, .und, .und, .und, .und, .und, .und, .und, .und, .und, .und, .und, .und, .und, .und, .und, .und, .und, .und, .und, .und, .und, .und, .und, .und, .und, .und, .und, .und, .und, .und, .und, .und, .und, .und, .und, .und, .und, .und, .und, .und, .und, .und, .und, .v (.c (.bool t50)), .und, .und, .und, .und, .und, .und, .und, .und, .und, .und, .und, .und, .und, .und, .und, .und, .und, .und, .und, .und, .und, .und, .und, .und, .und, .und, .und, .und, .und, .und, .und, .und, .und, .und, .und, .und, .und, .und, .und, .und, .und, .und, .und, .und, .und, .und, .und, .und, .und, .und, .und, .und, .und, .und, .und, .und, .und, .und, .und, .und, .und, .und, .und, .und, .und, .und, .und, .und, .und, .und, .und, .box [.int .i64 r122_0, .int .i64 r122_1, .int .i64 r122_2, .int .i64 r122_3, .int .i64 r122_4, .int .i64 r122_5], .box [.int .i64 x123_0, .int .i64 x123_1, .int .i64 x123_2, .int .i64 x123_3, .int .i64 x123_4, .int .i64 x123_5, .int .i64 x123_6, .int .i64 x123_7], .und] G
theorem hodmanref1_Of.L19_eq (M : Mach) (C : Call) (l4i : Nat) (l4o : Nat) (l4n : Nat) (i5 : Int) (r122_0 : Int) (r122_1 : Int) (r122_2 : Int) (r122_3 : Int) (r122_4 : Int) (r122_5 : Int) (x123_0 : Int) (x123_1 : Int) (x123_2 : Int) (x123_3 : Int) (x123_4 : Int) (x123_5 : Int) (x123_6 : Int) (x123_7 : Int) (G : GH) : hodmanref1_Of.L19 M C l4i l4o l4n i5 r122_0 r122_1 r122_2 r122_3 r122_4 r122_5 x123_0 x123_1 x123_2 x123_3 x123_4 x123_5 x123_6 x123_7 G = (bif decide (i5 < 4) then guardK (decide (0 ≤ i5 ∧ i5 < ((l4n : Nat) : Int))) (((G.ld l4i (l4o + Int.toNat i5 * 1)).bind (Cell.asI .i64)).bind fun qx_2 => bif decide (qx_2 < 1) then hodmanref1_Of.J13 M C l4i l4o l4n i5 true r122_0 r122_1 r122_2 r122_3 r122_4 r122_5 x123_0 x123_1 x123_2 x123_3 x123_4 x123_5 x123_6 x123_7 G else guardK (decide (0 ≤ i5 ∧ i5 < ((l4n : Nat) : Int))) (((G.ld l4i (l4o + Int.toNat i5 * 1)).bind (Cell.asI .i64)).bind fun qx_3 => hodmanref1_Of.J13 M C l4i l4o l4n i5 (decide (qx_3 > 65536)) r122_0 r122_1 r122_2 r122_3 r122_4 r122_5 x123_0 x123_1 x123_2 x123_3 x123_4 x123_5 x123_6 x123_7 G)) else bif decide (r122_4 < 0) then hodmanref1_Of.J27 M C true r122_0 r122_1 r122_2 r122_3 r122_4 r122_5 x123_0 x123_1 x123_2 x123_3 x123_4 x123_5 x123_6 x123_7 G else bif decide (r122_4 > 65536) then hodmanref1_Of.J27 M C true r122_0 r122_1 r122_2 r122_3 r122_4 r122_5 x123_0 x123_1 x123_2 x123_3 x123_4 x123_5 x123_6 x123_7 G else bif decide (r122_5 < 0) then hodmanref1_Of.J27 M C true r122_0 r122_1 r122_2 r122_3 r122_4 r122_5 x123_0 x123_1 x123_2 x123_3 x123_4 x123_5 x123_6 x123_7 G else hodmanref1_Of.J27 M C (decide (r122_5 > 255)) r122_0 r122_1 r122_2 r122_3 r122_4 r122_5 x123_0 x123_1 x123_2 x123_3 x123_4 x123_5 x123_6 x123_7 G) := (M.hs _ _ _ _ _ _ _).trans (by kernel_rfl)
theorem hodmanref1_Of.J13_eq (M : Mach) (C : Call) (l4i : Nat) (l4o : Nat) (l4n : Nat) (i5 : Int) (t31 : Bool) (r122_0 : Int) (r122_1 : Int) (r122_2 : Int) (r122_3 : Int) (r122_4 : Int) (r122_5 : Int) (x123_0 : Int) (x123_1 : Int) (x123_2 : Int) (x123_3 : Int) (x123_4 : Int) (x123_5 : Int) (x123_6 : Int) (x123_7 : Int) (G : GH) : hodmanref1_Of.J13 M C l4i l4o l4n i5 t31 r122_0 r122_1 r122_2 r122_3 r122_4 r122_5 x123_0 x123_1 x123_2 x123_3 x123_4 x123_5 x123_6 x123_7 G = (bif t31 then some ([.agg [.int .i64 0, .int .i64 0, .int .i64 0, .int .i64 0, .int .i64 0, .int .i64 0, .int .i64 0, .int .i64 0], .c (.int .i64 1)], G) else hodmanref1_Of.L19 M C l4i l4o l4n (IntKind.i64.wrap (i5 + 1)) r122_0 r122_1 r122_2 r122_3 r122_4 r122_5 x123_0 x123_1 x123_2 x123_3 x123_4 x123_5 x123_6 x123_7 G) := (M.hj _ _ _).trans (by kernel_rfl)
theorem hodmanref1_Of.J27_eq (M : Mach) (C : Call) (t50 : Bool) (r122_0 : Int) (r122_1 : Int) (r122_2 : Int) (r122_3 : Int) (r122_4 : Int) (r122_5 : Int) (x123_0 : Int) (x123_1 : Int) (x123_2 : Int) (x123_3 : Int) (x123_4 : Int) (x123_5 : Int) (x123_6 : Int) (x123_7 : Int) (G : GH) : hodmanref1_Of.J27 M C t50 r122_0 r122_1 r122_2 r122_3 r122_4 r122_5 x123_0 x123_1 x123_2 x123_3 x123_4 x123_5 x123_6 x123_7 G = (bif t50 then some ([.agg [.int .i64 0, .int .i64 0, .int .i64 0, .int .i64 0, .int .i64 0, .int .i64 0, .int .i64 0, .int .i64 0], .c (.int .i64 1)], G) else (C hodmanref1_Up.id [.c (.int .i64 r122_0)] G).bind fun qr_4 => (((qr_4.1[0]?).bind V1.c?).bind (Cell.asI .i64)).bind fun qx_5 => (((qr_4.1[1]?).bind V1.c?).bind Cell.asB).bind fun qb_6 => (C hodmanref1_Up.id [.c (.int .i64 (mx2 r122_1 qx_5))] qr_4.2).bind fun qr_7 => (((qr_7.1[0]?).bind V1.c?).bind (Cell.asI .i64)).bind fun qx_8 => (((qr_7.1[1]?).bind V1.c?).bind Cell.asB).bind fun qb_9 => (C hodmanref1_Up.id [.c (.int .i64 (mx2 r122_3 qx_5))] qr_7.2).bind fun qr_10 => (((qr_10.1[0]?).bind V1.c?).bind (Cell.asI .i64)).bind fun qx_11 => (((qr_10.1[1]?).bind V1.c?).bind Cell.asB).bind fun qb_12 => (C hodmanref1_Round.id [.c (.int .i64 r122_2), .c (.int .i64 (IntKind.i64.wrap (2 * (mx2 qx_8 qx_11))))] qr_10.2).bind fun qr_13 => (((qr_13.1[0]?).bind V1.c?).bind (Cell.asI .i64)).bind fun qx_14 => (((qr_13.1[1]?).bind V1.c?).bind Cell.asB).bind fun qb_15 => (binD .quo .i64 qx_8 qx_5).bind fun qx_16 => (C hodmanref1_Log.id [.c (.int .i64 qx_16)] qr_13.2).bind fun qr_17 => (((qr_17.1[0]?).bind V1.c?).bind (Cell.asI .i64)).bind fun qx_18 => (((qr_17.1[1]?).bind V1.c?).bind Cell.asB).bind fun qb_19 => bif decide (IntKind.i64.wrap (qx_14 + (IntKind.i64.wrap (qx_18 * (IntKind.i64.wrap (Int.tdiv qx_14 2))))) > 65536) then some ([.agg [.int .i64 0, .int .i64 0, .int .i64 0, .int .i64 0, .int .i64 0, .int .i64 0, .int .i64 0, .int .i64 0], .c (.int .i64 1)], qr_17.2) else some ([.agg [.int .i64 qx_5, .int .i64 qx_8, .int .i64 qx_14, .int .i64 qx_18, .int .i64 qx_11, .int .i64 r122_4, .int .i64 (IntKind.i64.wrap (qx_14 + (IntKind.i64.wrap (qx_18 * (IntKind.i64.wrap (Int.tdiv qx_14 2)))))), .int .i64 r122_5], .c (.int .i64 0)], qr_17.2)) := (M.hj _ _ _).trans (by kernel_rfl)
def hodmanref1_Of.f (M : Mach) (C : Call) (r0_0 : Int) (r0_1 : Int) (r0_2 : Int) (r0_3 : Int) (r0_4 : Int) (r0_5 : Int) (G : GH) : Option Res := let qG_1 := G.alloc (.row [.int .i64 r0_0, .int .i64 r0_1, .int .i64 r0_2, .int .i64 r0_3] false); hodmanref1_Of.L19 M C G.next 0 4 0 r0_0 r0_1 r0_2 r0_3 r0_4 r0_5 0 0 0 0 0 0 0 0 qG_1
theorem hodmanref1_Of.eq (M : Mach) (C : Call) (r0_0 : Int) (r0_1 : Int) (r0_2 : Int) (r0_3 : Int) (r0_4 : Int) (r0_5 : Int) (G : GH) : runF M C hodmanref1_Of.d [.agg [.int .i64 r0_0, .int .i64 r0_1, .int .i64 r0_2, .int .i64 r0_3, .int .i64 r0_4, .int .i64 r0_5]] G = hodmanref1_Of.f M C r0_0 r0_1 r0_2 r0_3 r0_4 r0_5 G := by kernel_rfl

/- 30 hodman/hodmanlaw16.begun -/
def hodmanlaw16_begun.d : DFn := { ntmps := 63, res := [.t 0], body := (.seq (.region [⟨0, some 0, .move (.k (.c (.bool false))), none⟩]) (.seq (.region [⟨0, some 12, .build [.int .i64 0, .int .i64 0, .int .i64 0, .int .i64 0, .int .i64 0, .int .i64 0] [(0, 1, .k (.c (.int .i64 1))), (1, 1, .k (.c (.int .i64 4))), (2, 1, .k (.c (.int .i64 8))), (3, 1, .k (.c (.int .i64 1)))], none⟩,
    ⟨1, some 13, .call 23 [.t 12] [.agg [.int .i64, .int .i64, .int .i64, .int .i64, .int .i64, .int .i64, .int .i64, .int .i64], .c (.int .i64)], none⟩,
    ⟨2, some 11, .move (.t 13), none⟩,
    ⟨3, some 14, .ext 11 0, none⟩,
    ⟨4, some 15, .ext 11 1, none⟩,
    ⟨5, some 1, .boxz 62 [] [.int .i64 0, .int .i64 0, .int .i64 0, .int .i64 0, .int .i64 0, .int .i64 0, .int .i64 0, .int .i64 0], none⟩,
    ⟨6, none, .stL 1 62 (.t 14) 8, none⟩,
    ⟨7, some 2, .move (.t 15), none⟩]) (.seq (.region [⟨0, some 17, .ldL 1 62 (.agg [.int .i64, .int .i64, .int .i64, .int .i64, .int .i64, .int .i64, .int .i64, .int .i64]), none⟩,
    ⟨1, some 18, .call 31 [.t 17, .k (.c (.int .i64 5)), .k (.c (.int .i64 3)), .k (.c (.int .i64 1))] [.c (.int .i64), .c (.int .i64)], none⟩,
    ⟨2, some 16, .move (.t 18), none⟩,
    ⟨3, some 19, .ext 16 0, none⟩,
    ⟨4, some 20, .ext 16 1, none⟩,
    ⟨5, some 3, .move (.t 19), none⟩,
    ⟨6, some 4, .move (.t 20), none⟩]) (.seq (.region [⟨0, some 22, .ldL 1 62 (.agg [.int .i64, .int .i64, .int .i64, .int .i64, .int .i64, .int .i64, .int .i64, .int .i64]), none⟩,
    ⟨1, some 23, .call 31 [.t 22, .k (.c (.int .i64 4)), .k (.c (.int .i64 3)), .k (.c (.int .i64 1))] [.c (.int .i64), .c (.int .i64)], none⟩,
    ⟨2, some 21, .move (.t 23), none⟩,
    ⟨3, some 24, .ext 21 0, none⟩,
    ⟨4, some 25, .ext 21 1, none⟩,
    ⟨5, some 5, .move (.t 24), none⟩,
    ⟨6, some 6, .move (.t 25), none⟩]) (.seq (.region [⟨0, some 27, .ldL 1 62 (.agg [.int .i64, .int .i64, .int .i64, .int .i64, .int .i64, .int .i64, .int .i64, .int .i64]), none⟩,
    ⟨1, some 28, .call 33 [.t 27, .k (.c (.int .i64 0)), .k (.c (.int .i64 2)), .k (.c (.int .i64 3))] [.c (.int .i64), .c (.int .i64)], none⟩,
    ⟨2, some 26, .move (.t 28), none⟩,
    ⟨3, some 29, .ext 26 0, none⟩,
    ⟨4, some 30, .ext 26 1, none⟩,
    ⟨5, some 7, .move (.t 29), none⟩,
    ⟨6, some 8, .move (.t 30), none⟩]) (.seq (.region [⟨0, some 32, .ldL 1 62 (.agg [.int .i64, .int .i64, .int .i64, .int .i64, .int .i64, .int .i64, .int .i64, .int .i64]), none⟩,
    ⟨1, some 33, .call 35 [.t 32, .k (.c (.int .i64 8)), .k (.c (.int .i64 4)), .k (.c (.int .i64 4))] [.c (.int .i64), .c (.int .i64)], none⟩,
    ⟨2, some 31, .move (.t 33), none⟩,
    ⟨3, some 34, .ext 31 0, none⟩,
    ⟨4, some 35, .ext 31 1, none⟩,
    ⟨5, some 9, .move (.t 34), none⟩,
    ⟨6, some 10, .move (.t 35), none⟩]) (.seq (.region [⟨0, some 36, .move (.t 3), none⟩,
    ⟨1, some 37, .cmp .eql .i64 (.t 36) (.k (.c (.int .i64 0))), none⟩,
    ⟨2, some 38, .move (.t 37), none⟩,
    ⟨3, some 39, .move (.t 4), some (38, true)⟩,
    ⟨4, some 40, .cmp .eql .i64 (.t 39) (.k (.c (.int .i64 5))), some (38, true)⟩,
    ⟨5, some 41, .pick (.t 38) (.t 40) (.k (.c (.bool false))), none⟩,
    ⟨6, some 42, .move (.t 41), none⟩,
    ⟨7, some 43, .move (.t 5), some (42, true)⟩,
    ⟨8, some 44, .cmp .eql .i64 (.t 43) (.k (.c (.int .i64 4))), some (42, true)⟩,
    ⟨9, some 45, .pick (.t 42) (.t 44) (.k (.c (.bool false))), none⟩,
    ⟨10, some 46, .move (.t 45), none⟩,
    ⟨11, some 47, .move (.t 6), some (46, true)⟩,
    ⟨12, some 48, .cmp .eql .i64 (.t 47) (.k (.c (.int .i64 0))), some (46, true)⟩,
    ⟨13, some 49, .pick (.t 46) (.t 48) (.k (.c (.bool false))), none⟩,
    ⟨14, some 50, .move (.t 49), none⟩,
    ⟨15, some 51, .move (.t 8), some (50, true)⟩,
    ⟨16, some 52, .cmp .eql .i64 (.t 51) (.k (.c (.int .i64 4))), some (50, true)⟩,
    ⟨17, some 53, .pick (.t 50) (.t 52) (.k (.c (.bool false))), none⟩,
    ⟨18, some 54, .move (.t 53), none⟩,
    ⟨19, some 55, .move (.t 9), some (54, true)⟩,
    ⟨20, some 56, .cmp .eql .i64 (.t 55) (.k (.c (.int .i64 4))), some (54, true)⟩,
    ⟨21, some 57, .pick (.t 54) (.t 56) (.k (.c (.bool false))), none⟩,
    ⟨22, some 58, .move (.t 57), none⟩,
    ⟨23, some 59, .move (.t 10), some (58, true)⟩,
    ⟨24, some 60, .cmp .eql .i64 (.t 59) (.k (.c (.int .i64 0))), some (58, true)⟩,
    ⟨25, some 61, .pick (.t 58) (.t 60) (.k (.c (.bool false))), none⟩,
    ⟨26, some 0, .move (.t 61), none⟩]) .ret))))))) }
def hodmanlaw16_begun.f (M : Mach) (C : Call)  (G : GH) : Option Res := (C hodmanref1_Of.id [.agg [.int .i64 1, .int .i64 4, .int .i64 8, .int .i64 1, .int .i64 0, .int .i64 0]] G).bind fun qr_1 => ((qr_1.1[0]?).bind V1.a?).bind fun qcs_2 => if qcs_2.length = 8 then (((qcs_2[0]?).bind (Cell.asI .i64)).bind fun qx_3 => ((qcs_2[1]?).bind (Cell.asI .i64)).bind fun qx_4 => ((qcs_2[2]?).bind (Cell.asI .i64)).bind fun qx_5 => ((qcs_2[3]?).bind (Cell.asI .i64)).bind fun qx_6 => ((qcs_2[4]?).bind (Cell.asI .i64)).bind fun qx_7 => ((qcs_2[5]?).bind (Cell.asI .i64)).bind fun qx_8 => ((qcs_2[6]?).bind (Cell.asI .i64)).bind fun qx_9 => ((qcs_2[7]?).bind (Cell.asI .i64)).bind fun qx_10 => (((qr_1.1[1]?).bind V1.c?).bind (Cell.asI .i64)).bind fun qx_11 => (C admit_New.id [.agg [.int .i64 qx_3, .int .i64 qx_4, .int .i64 qx_5, .int .i64 qx_6, .int .i64 qx_7, .int .i64 qx_8, .int .i64 qx_9, .int .i64 qx_10], .c (.int .i64 5), .c (.int .i64 3), .c (.int .i64 1)] qr_1.2).bind fun qr_12 => (((qr_12.1[0]?).bind V1.c?).bind (Cell.asI .i64)).bind fun qx_13 => (((qr_12.1[1]?).bind V1.c?).bind (Cell.asI .i64)).bind fun qx_14 => (C admit_New.id [.agg [.int .i64 qx_3, .int .i64 qx_4, .int .i64 qx_5, .int .i64 qx_6, .int .i64 qx_7, .int .i64 qx_8, .int .i64 qx_9, .int .i64 qx_10], .c (.int .i64 4), .c (.int .i64 3), .c (.int .i64 1)] qr_12.2).bind fun qr_15 => (((qr_15.1[0]?).bind V1.c?).bind (Cell.asI .i64)).bind fun qx_16 => (((qr_15.1[1]?).bind V1.c?).bind (Cell.asI .i64)).bind fun qx_17 => (C admit_Many.id [.agg [.int .i64 qx_3, .int .i64 qx_4, .int .i64 qx_5, .int .i64 qx_6, .int .i64 qx_7, .int .i64 qx_8, .int .i64 qx_9, .int .i64 qx_10], .c (.int .i64 0), .c (.int .i64 2), .c (.int .i64 3)] qr_15.2).bind fun qr_18 => (((qr_18.1[0]?).bind V1.c?).bind (Cell.asI .i64)).bind fun qx_19 => (((qr_18.1[1]?).bind V1.c?).bind (Cell.asI .i64)).bind fun qx_20 => (C admit_Anew.id [.agg [.int .i64 qx_3, .int .i64 qx_4, .int .i64 qx_5, .int .i64 qx_6, .int .i64 qx_7, .int .i64 qx_8, .int .i64 qx_9, .int .i64 qx_10], .c (.int .i64 8), .c (.int .i64 4), .c (.int .i64 4)] qr_18.2).bind fun qr_21 => (((qr_21.1[0]?).bind V1.c?).bind (Cell.asI .i64)).bind fun qx_22 => (((qr_21.1[1]?).bind V1.c?).bind (Cell.asI .i64)).bind fun qx_23 => bif decide (qx_13 = 0) then bif decide (qx_14 = 5) then bif decide (qx_16 = 4) then bif decide (qx_17 = 0) then bif decide (qx_20 = 4) then bif decide (qx_22 = 4) then some ([.c (.bool (decide (qx_23 = 0)))], qr_21.2) else some ([.c (.bool false)], qr_21.2) else some ([.c (.bool false)], qr_21.2) else some ([.c (.bool false)], qr_21.2) else some ([.c (.bool false)], qr_21.2) else some ([.c (.bool false)], qr_21.2) else some ([.c (.bool false)], qr_21.2)) else none
theorem hodmanlaw16_begun.eq (M : Mach) (C : Call)  (G : GH) : runF M C hodmanlaw16_begun.d [] G = hodmanlaw16_begun.f M C  G := by kernel_rfl

/- 17 hodman/class.Charge -/
def class_Charge.c7 : DCode := (.cond (.t 24) (.seq (.region [⟨0, some 6, .move (.k (.c (.int .i64 0))), none⟩,
    ⟨1, some 7, .move (.k (.c (.int .i64 3))), none⟩]) .ret) .skip)
def class_Charge.c15 : DCode := (.cond (.t 32) (.seq (.region [⟨0, some 6, .move (.k (.c (.int .i64 0))), none⟩,
    ⟨1, some 7, .move (.k (.c (.int .i64 4))), none⟩]) .ret) .skip)
def class_Charge.c21 : DCode := (.seq (.region [⟨0, some 34, .move (.t 1), none⟩,
    ⟨1, some 35, .move (.t 2), none⟩,
    ⟨2, some 36, .faddr 3 0, none⟩,
    ⟨3, some 37, .ldL 36 43 (.c (.int .i64)), none⟩,
    ⟨4, some 38, .mx (.t 34) [.t 35, .t 37], none⟩,
    ⟨5, some 39, .call 38 [.t 38] [.c (.int .i64), .c (.bool)], none⟩,
    ⟨6, some 33, .move (.t 39), none⟩,
    ⟨7, some 40, .ext 33 0, none⟩,
    ⟨8, some 41, .ext 33 1, none⟩,
    ⟨9, some 10, .move (.t 40), none⟩,
    ⟨10, some 11, .move (.t 41), none⟩]) (.seq (.region [⟨0, some 42, .move (.t 10), none⟩,
    ⟨1, some 6, .move (.t 42), none⟩,
    ⟨2, some 7, .move (.k (.c (.int .i64 0))), none⟩]) .ret))
def class_Charge.c22 : DCode := (.seq (.seq (.region [⟨0, some 25, .move (.t 1), none⟩,
    ⟨1, some 26, .cmp .lss .i64 (.t 25) (.k (.c (.int .i64 0))), none⟩,
    ⟨2, some 27, .move (.t 26), none⟩,
    ⟨3, some 28, .move (.t 1), some (27, false)⟩,
    ⟨4, some 29, .faddr 3 1, some (27, false)⟩,
    ⟨5, some 30, .ldL 29 43 (.c (.int .i64)), some (27, false)⟩,
    ⟨6, some 31, .cmp .gtr .i64 (.t 28) (.t 30), some (27, false)⟩,
    ⟨7, some 32, .pick (.t 27) (.k (.c (.bool true))) (.t 31), none⟩]) (.cut [1, 2, 3, 32, 43] class_Charge.c15)) class_Charge.c21)
def class_Charge.d : DFn := { ntmps := 44, res := [.t 6, .t 7], body := (.seq (.region [⟨0, some 3, .boxv 43 [21, 29, 36] (.t 0) 8, none⟩,
    ⟨1, some 6, .move (.k (.c (.int .i64 0))), none⟩,
    ⟨2, some 7, .move (.k (.c (.int .i64 0))), none⟩]) (.seq (.seq (.region [⟨0, some 13, .move (.t 2), none⟩,
    ⟨1, some 14, .call 37 [.t 13] [.c (.int .i64), .c (.bool)], none⟩,
    ⟨2, some 12, .move (.t 14), none⟩,
    ⟨3, some 15, .ext 12 0, none⟩,
    ⟨4, some 16, .ext 12 1, none⟩,
    ⟨5, some 8, .move (.t 15), none⟩,
    ⟨6, some 9, .move (.t 16), none⟩]) (.seq (.region [⟨0, some 17, .move (.t 9), none⟩,
    ⟨1, some 18, .not (.t 17), none⟩,
    ⟨2, some 19, .move (.t 18), none⟩,
    ⟨3, some 20, .move (.t 2), some (19, false)⟩,
    ⟨4, some 21, .faddr 3 1, some (19, false)⟩,
    ⟨5, some 22, .ldL 21 43 (.c (.int .i64)), some (19, false)⟩,
    ⟨6, some 23, .cmp .gtr .i64 (.t 20) (.t 22), some (19, false)⟩,
    ⟨7, some 24, .pick (.t 19) (.k (.c (.bool true))) (.t 23), none⟩]) (.cut [1, 2, 3, 24, 43] class_Charge.c7))) class_Charge.c22)) }
def class_Charge.k22 (M : Mach) (C : Call) : Kont := execC M.j C (M.ag C) class_Charge.c22 ({ exits := [], ret := retK class_Charge.d } : Env) (retK class_Charge.d)
def class_Charge.J7 (M : Mach) (C : Call) (s1 : Int) (a2 : Int) (t24 : Bool) (c43_0 : Int) (c43_1 : Int) (c43_2 : Int) (c43_3 : Int) (c43_4 : Int) (c43_5 : Int) (c43_6 : Int) (c43_7 : Int) (G : GH) : Option Res := M.j (execC M.j C (M.ag C) class_Charge.c7 ({ exits := [], ret := retK class_Charge.d } : Env) (class_Charge.k22 M C)) [.und, .v (.c (.int .i64 s1)), .v (.c (.int .i64 a2)), .ref 43 0, .und, .und, .und, .und, .und, .und, .und, .und, .und, .und, .und, .und, .und, .und, .und, .und, .und, .und, .und, .und, .v (.c (.bool t24)), .und, .und, .und, .und, .und, .und, .und, .und, .und, .und, .und, .und, .und, .und, .und, .und, .und, .und, .box [.int .i64 c43_0, .int .i64 c43_1, .int .i64 c43_2, .int .i64 c43_3, .int .i64 c43_4, .int .i64 c43_5, .int .i64 c43_6, .int .i64 c43_7]] G
def class_Charge.k21 (M : Mach) (C : Call) : Kont := execC M.j C (M.ag C) class_Charge.c21 ({ exits := [], ret := retK class_Charge.d } : Env) (retK class_Charge.d)
def class_Charge.J15 (M : Mach) (C : Call) (s1 : Int) (a2 : Int) (t32 : Bool) (c43_0 : Int) (c43_1 : Int) (c43_2 : Int) (c43_3 : Int) (c43_4 : Int) (c43_5 : Int) (c43_6 : Int) (c43_7 : Int) (G : GH) : Option Res := M.j (execC M.j C (M.ag C) class_Charge.c15 ({ exits := [], ret := retK class_Charge.d } : Env) (class_Charge.k21 M C)) [.und, .v (.c (.int .i64 s1)), .v (.c (.int .i64 a2)), .ref 43 0, .und, .und, .und, .und, .und, .und, .und, .und, .und, .und, .und, .und, .und, .und, .und, .und, .und, .und, .und, .und, .und, .und, .und, .und, .und, .und, .und, .und, .v (.c (.bool t32)), .und, .und, .und, .und, .und, .und, .und, .und, .und, .und, .box [.int .i64 c43_0, .int .i64 c43_1, .int .i64 c43_2, .int .i64 c43_3, .int .i64 c43_4, .int .i64 c43_5, .int .i64 c43_6, .int .i64 c43_7]] G
theorem class_Charge.J7_eq (M : Mach) (C : Call) (s1 : Int) (a2 : Int) (t24 : Bool) (c43_0 : Int) (c43_1 : Int) (c43_2 : Int) (c43_3 : Int) (c43_4 : Int) (c43_5 : Int) (c43_6 : Int) (c43_7 : Int) (G : GH) : class_Charge.J7 M C s1 a2 t24 c43_0 c43_1 c43_2 c43_3 c43_4 c43_5 c43_6 c43_7 G = (bif t24 then some ([.c (.int .i64 0), .c (.int .i64 3)], G) else bif decide (s1 < 0) then class_Charge.J15 M C s1 a2 true c43_0 c43_1 c43_2 c43_3 c43_4 c43_5 c43_6 c43_7 G else class_Charge.J15 M C s1 a2 (decide (s1 > c43_1)) c43_0 c43_1 c43_2 c43_3 c43_4 c43_5 c43_6 c43_7 G) := (M.hj _ _ _).trans (by kernel_rfl)
theorem class_Charge.J15_eq (M : Mach) (C : Call) (s1 : Int) (a2 : Int) (t32 : Bool) (c43_0 : Int) (c43_1 : Int) (c43_2 : Int) (c43_3 : Int) (c43_4 : Int) (c43_5 : Int) (c43_6 : Int) (c43_7 : Int) (G : GH) : class_Charge.J15 M C s1 a2 t32 c43_0 c43_1 c43_2 c43_3 c43_4 c43_5 c43_6 c43_7 G = (bif t32 then some ([.c (.int .i64 0), .c (.int .i64 4)], G) else (C calc_Up.id [.c (.int .i64 (mx2 (mx2 s1 a2) c43_0))] G).bind fun qr_4 => (((qr_4.1[0]?).bind V1.c?).bind (Cell.asI .i64)).bind fun qx_5 => (((qr_4.1[1]?).bind V1.c?).bind Cell.asB).bind fun qb_6 => some ([.c (.int .i64 qx_5), .c (.int .i64 0)], qr_4.2)) := (M.hj _ _ _).trans (by kernel_rfl)
def class_Charge.f (M : Mach) (C : Call) (c0_0 : Int) (c0_1 : Int) (c0_2 : Int) (c0_3 : Int) (c0_4 : Int) (c0_5 : Int) (c0_6 : Int) (c0_7 : Int) (s1 : Int) (a2 : Int) (G : GH) : Option Res := (C calc_Log.id [.c (.int .i64 a2)] G).bind fun qr_1 => (((qr_1.1[0]?).bind V1.c?).bind (Cell.asI .i64)).bind fun qx_2 => (((qr_1.1[1]?).bind V1.c?).bind Cell.asB).bind fun qb_3 => bif (!qb_3) then class_Charge.J7 M C s1 a2 true c0_0 c0_1 c0_2 c0_3 c0_4 c0_5 c0_6 c0_7 qr_1.2 else class_Charge.J7 M C s1 a2 (decide (a2 > c0_1)) c0_0 c0_1 c0_2 c0_3 c0_4 c0_5 c0_6 c0_7 qr_1.2
theorem class_Charge.eq (M : Mach) (C : Call) (c0_0 : Int) (c0_1 : Int) (c0_2 : Int) (c0_3 : Int) (c0_4 : Int) (c0_5 : Int) (c0_6 : Int) (c0_7 : Int) (s1 : Int) (a2 : Int) (G : GH) : runF M C class_Charge.d [.agg [.int .i64 c0_0, .int .i64 c0_1, .int .i64 c0_2, .int .i64 c0_3, .int .i64 c0_4, .int .i64 c0_5, .int .i64 c0_6, .int .i64 c0_7], .c (.int .i64 s1), .c (.int .i64 a2)] G = class_Charge.f M C c0_0 c0_1 c0_2 c0_3 c0_4 c0_5 c0_6 c0_7 s1 a2 G := by kernel_rfl

/- 41 hodman/calc.Mul -/
def calc_Mul.c10 : DCode := (.cond (.t 14) (.seq (.region [⟨0, some 4, .move (.k (.c (.int .i64 0))), none⟩,
    ⟨1, some 5, .move (.k (.c (.bool false))), none⟩]) .ret) .skip)
def calc_Mul.c12 : DCode := (.cond (.t 7) (.seq (.region [⟨0, some 4, .move (.k (.c (.int .i64 0))), none⟩,
    ⟨1, some 5, .move (.k (.c (.bool true))), none⟩]) .ret) (.seq (.region [⟨0, some 15, .move (.t 0), none⟩,
    ⟨1, some 16, .cmp .eql .i64 (.t 15) (.k (.c (.int .i64 (-1)))), none⟩,
    ⟨2, some 17, .move (.t 16), none⟩,
    ⟨3, some 18, .move (.t 1), some (17, true)⟩,
    ⟨4, some 19, .cmp .eql .i64 (.t 18) (.k (.c (.int .i64 (-9223372036854775808)))), some (17, true)⟩,
    ⟨5, some 20, .pick (.t 17) (.t 19) (.k (.c (.bool false))), none⟩,
    ⟨6, some 21, .move (.t 20), none⟩,
    ⟨7, some 22, .move (.t 1), some (21, false)⟩,
    ⟨8, some 23, .cmp .eql .i64 (.t 22) (.k (.c (.int .i64 (-1)))), some (21, false)⟩,
    ⟨9, some 24, .move (.t 23), some (21, false)⟩,
    ⟨10, some 25, .move (.t 0), some (24, true)⟩,
    ⟨11, some 26, .cmp .eql .i64 (.t 25) (.k (.c (.int .i64 (-9223372036854775808)))), some (24, true)⟩,
    ⟨12, some 27, .pick (.t 24) (.t 26) (.k (.c (.bool false))), some (21, false)⟩,
    ⟨13, some 28, .pick (.t 21) (.k (.c (.bool true))) (.t 27), none⟩,
    ⟨14, some 14, .move (.t 28), none⟩]) (.cut [0, 1, 14] calc_Mul.c10)))
def calc_Mul.c27 : DCode := (.seq (.region [⟨0, some 29, .move (.t 0), none⟩,
    ⟨1, some 30, .conv .u64 (.t 29), none⟩,
    ⟨2, some 31, .move (.t 1), none⟩,
    ⟨3, some 32, .conv .u64 (.t 31), none⟩,
    ⟨4, some 33, .bin .mul .u64 (.t 30) (.t 32), none⟩,
    ⟨5, some 34, .conv .i64 (.t 33), none⟩,
    ⟨6, some 6, .move (.t 34), none⟩]) (.seq (.seq (.region [⟨0, some 35, .move (.t 6), none⟩,
    ⟨1, some 36, .move (.t 1), none⟩,
    ⟨2, some 37, .bin .quo .i64 (.t 35) (.t 36), none⟩,
    ⟨3, some 38, .move (.t 0), none⟩,
    ⟨4, some 39, .cmp .neq .i64 (.t 37) (.t 38), none⟩]) (.cond (.t 39) (.seq (.region [⟨0, some 4, .move (.k (.c (.int .i64 0))), none⟩,
    ⟨1, some 5, .move (.k (.c (.bool false))), none⟩]) .ret) .skip)) (.seq (.region [⟨0, some 40, .move (.t 6), none⟩,
    ⟨1, some 4, .move (.t 40), none⟩,
    ⟨2, some 5, .move (.k (.c (.bool true))), none⟩]) .ret)))
def calc_Mul.d : DFn := { ntmps := 41, res := [.t 4, .t 5], body := (.seq (.region [⟨0, some 4, .move (.k (.c (.int .i64 0))), none⟩,
    ⟨1, some 5, .move (.k (.c (.bool false))), none⟩]) (.seq (.block 0 (.seq (.region [⟨0, some 8, .move (.t 0), none⟩,
    ⟨1, some 9, .cmp .eql .i64 (.t 8) (.k (.c (.int .i64 0))), none⟩,
    ⟨2, some 10, .move (.t 9), none⟩,
    ⟨3, some 11, .move (.t 1), some (10, false)⟩,
    ⟨4, some 12, .cmp .eql .i64 (.t 11) (.k (.c (.int .i64 0))), some (10, false)⟩,
    ⟨5, some 13, .pick (.t 10) (.k (.c (.bool true))) (.t 12), none⟩,
    ⟨6, some 7, .move (.t 13), none⟩]) (.cut [0, 1, 7] calc_Mul.c12))) calc_Mul.c27)) }
def calc_Mul.k27 (M : Mach) (C : Call) : Kont := execC M.j C (M.ag C) calc_Mul.c27 ({ exits := [], ret := retK calc_Mul.d } : Env) (retK calc_Mul.d)
def calc_Mul.e14 (M : Mach) (C : Call) : Env := { exits := (0, (calc_Mul.k27 M C)) :: (({ exits := [], ret := retK calc_Mul.d } : Env)).exits, ret := (({ exits := [], ret := retK calc_Mul.d } : Env)).ret }
def calc_Mul.J12 (M : Mach) (C : Call) (a0 : Int) (b1 : Int) (t7 : Bool) (G : GH) : Option Res := M.j (execC M.j C (M.ag C) calc_Mul.c12 (calc_Mul.e14 M C) (calc_Mul.k27 M C)) [.v (.c (.int .i64 a0)), .v (.c (.int .i64 b1)), .und, .und, .und, .und, .und, .v (.c (.bool t7)), .und, .und, .und, .und, .und, .und, .und, .und, .und, .und, .und, .und, .und, .und, .und, .und, .und, .und, .und, .und, .und, .und, .und, .und, .und, .und, .und, .und, .und, .und, .und, .und, .und] G
def calc_Mul.J10 (M : Mach) (C : Call) (a0 : Int) (b1 : Int) (t14 : Bool) (G : GH) : Option Res := M.j (execC M.j C (M.ag C) calc_Mul.c10 (calc_Mul.e14 M C) (calc_Mul.k27 M C)) [.v (.c (.int .i64 a0)), .v (.c (.int .i64 b1)), .und, .und, .und, .und, .und, .und, .und, .und, .und, .und, .und, .und, .v (.c (.bool t14)), .und, .und, .und, .und, .und, .und, .und, .und, .und, .und, .und, .und, .und, .und, .und, .und, .und, .und, .und, .und, .und, .und, .und, .und, .und, .und] G
theorem calc_Mul.J12_eq (M : Mach) (C : Call) (a0 : Int) (b1 : Int) (t7 : Bool) (G : GH) : calc_Mul.J12 M C a0 b1 t7 G = (bif t7 then some ([.c (.int .i64 0), .c (.bool true)], G) else bif decide (a0 = (-1)) then bif decide (b1 = (-9223372036854775808)) then calc_Mul.J10 M C a0 b1 true G else bif decide (b1 = (-1)) then calc_Mul.J10 M C a0 b1 (decide (a0 = (-9223372036854775808))) G else calc_Mul.J10 M C a0 b1 false G else bif decide (b1 = (-1)) then calc_Mul.J10 M C a0 b1 (decide (a0 = (-9223372036854775808))) G else calc_Mul.J10 M C a0 b1 false G) := (M.hj _ _ _).trans (by kernel_rfl)
theorem calc_Mul.J10_eq (M : Mach) (C : Call) (a0 : Int) (b1 : Int) (t14 : Bool) (G : GH) : calc_Mul.J10 M C a0 b1 t14 G = (bif t14 then some ([.c (.int .i64 0), .c (.bool false)], G) else (binD .quo .i64 (IntKind.i64.wrap (IntKind.u64.wrap ((IntKind.u64.wrap a0) * (IntKind.u64.wrap b1)))) b1).bind fun qx_1 => bif (!decide (qx_1 = a0)) then some ([.c (.int .i64 0), .c (.bool false)], G) else some ([.c (.int .i64 (IntKind.i64.wrap (IntKind.u64.wrap ((IntKind.u64.wrap a0) * (IntKind.u64.wrap b1))))), .c (.bool true)], G)) := (M.hj _ _ _).trans (by kernel_rfl)
def calc_Mul.f (M : Mach) (C : Call) (a0 : Int) (b1 : Int) (G : GH) : Option Res := bif decide (a0 = 0) then calc_Mul.J12 M C a0 b1 true G else calc_Mul.J12 M C a0 b1 (decide (b1 = 0)) G
theorem calc_Mul.eq (M : Mach) (C : Call) (a0 : Int) (b1 : Int) (G : GH) : runF M C calc_Mul.d [.c (.int .i64 a0), .c (.int .i64 b1)] G = calc_Mul.f M C a0 b1 G := by kernel_rfl

/- 19 hodman/class.Product -/
def class_Product.c6 : DCode := (.cond (.t 15) (.seq (.region [⟨0, some 6, .move (.k (.c (.int .i64 0))), none⟩,
    ⟨1, some 7, .move (.k (.c (.int .i64 2))), none⟩]) .ret) .skip)
def class_Product.c14 : DCode := (.cond (.t 29) (.seq (.region [⟨0, some 6, .move (.k (.c (.int .i64 0))), none⟩,
    ⟨1, some 7, .move (.k (.c (.int .i64 4))), none⟩]) .ret) .skip)
def class_Product.c18 : DCode := (.seq (.region [⟨0, some 30, .move (.t 8), none⟩,
    ⟨1, some 6, .move (.t 30), none⟩,
    ⟨2, some 7, .move (.k (.c (.int .i64 0))), none⟩]) .ret)
def class_Product.c20 : DCode := (.seq (.region [⟨0, some 17, .move (.t 1), none⟩,
    ⟨1, some 18, .move (.t 2), none⟩,
    ⟨2, some 19, .call 41 [.t 17, .t 18] [.c (.int .i64), .c (.bool)], none⟩,
    ⟨3, some 16, .move (.t 19), none⟩,
    ⟨4, some 20, .ext 16 0, none⟩,
    ⟨5, some 21, .ext 16 1, none⟩,
    ⟨6, some 8, .move (.t 20), none⟩,
    ⟨7, some 9, .move (.t 21), none⟩]) (.seq (.seq (.region [⟨0, some 22, .move (.t 9), none⟩,
    ⟨1, some 23, .not (.t 22), none⟩,
    ⟨2, some 24, .move (.t 23), none⟩,
    ⟨3, some 25, .move (.t 8), some (24, false)⟩,
    ⟨4, some 26, .faddr 3 1, some (24, false)⟩,
    ⟨5, some 27, .ldL 26 31 (.c (.int .i64)), some (24, false)⟩,
    ⟨6, some 28, .cmp .gtr .i64 (.t 25) (.t 27), some (24, false)⟩,
    ⟨7, some 29, .pick (.t 24) (.k (.c (.bool true))) (.t 28), none⟩]) (.cut [8, 29] class_Product.c14)) class_Product.c18))
def class_Product.d : DFn := { ntmps := 32, res := [.t 6, .t 7], body := (.seq (.region [⟨0, some 3, .boxv 31 [26] (.t 0) 8, none⟩,
    ⟨1, some 6, .move (.k (.c (.int .i64 0))), none⟩,
    ⟨2, some 7, .move (.k (.c (.int .i64 0))), none⟩]) (.seq (.seq (.region [⟨0, some 10, .move (.t 1), none⟩,
    ⟨1, some 11, .cmp .lss .i64 (.t 10) (.k (.c (.int .i64 0))), none⟩,
    ⟨2, some 12, .move (.t 11), none⟩,
    ⟨3, some 13, .move (.t 2), some (12, false)⟩,
    ⟨4, some 14, .cmp .lss .i64 (.t 13) (.k (.c (.int .i64 0))), some (12, false)⟩,
    ⟨5, some 15, .pick (.t 12) (.k (.c (.bool true))) (.t 14), none⟩]) (.cut [1, 2, 3, 15, 31] class_Product.c6)) class_Product.c20)) }
def class_Product.k20 (M : Mach) (C : Call) : Kont := execC M.j C (M.ag C) class_Product.c20 ({ exits := [], ret := retK class_Product.d } : Env) (retK class_Product.d)
def class_Product.J6 (M : Mach) (C : Call) (n1 : Int) (s2 : Int) (t15 : Bool) (c31_0 : Int) (c31_1 : Int) (c31_2 : Int) (c31_3 : Int) (c31_4 : Int) (c31_5 : Int) (c31_6 : Int) (c31_7 : Int) (G : GH) : Option Res := M.j (execC M.j C (M.ag C) class_Product.c6 ({ exits := [], ret := retK class_Product.d } : Env) (class_Product.k20 M C)) [.und, .v (.c (.int .i64 n1)), .v (.c (.int .i64 s2)), .ref 31 0, .und, .und, .und, .und, .und, .und, .und, .und, .und, .und, .und, .v (.c (.bool t15)), .und, .und, .und, .und, .und, .und, .und, .und, .und, .und, .und, .und, .und, .und, .und, .box [.int .i64 c31_0, .int .i64 c31_1, .int .i64 c31_2, .int .i64 c31_3, .int .i64 c31_4, .int .i64 c31_5, .int .i64 c31_6, .int .i64 c31_7]] G
def class_Product.k18 (M : Mach) (C : Call) : Kont := execC M.j C (M.ag C) class_Product.c18 ({ exits := [], ret := retK class_Product.d } : Env) (retK class_Product.d)
def class_Product.J14 (M : Mach) (C : Call) (p8 : Int) (t29 : Bool) (G : GH) : Option Res := M.j (execC M.j C (M.ag C) class_Product.c14 ({ exits := [], ret := retK class_Product.d } : Env) (class_Product.k18 M C)) [.und, .und, .und, .und, .und, .und, .und, .und, .v (.c (.int .i64 p8)), .und, .und, .und, .und, .und, .und, .und, .und, .und, .und, .und, .und, .und, .und, .und, .und, .und, .und, .und, .und, .v (.c (.bool t29)), .und, .und] G
theorem class_Product.J6_eq (M : Mach) (C : Call) (n1 : Int) (s2 : Int) (t15 : Bool) (c31_0 : Int) (c31_1 : Int) (c31_2 : Int) (c31_3 : Int) (c31_4 : Int) (c31_5 : Int) (c31_6 : Int) (c31_7 : Int) (G : GH) : class_Product.J6 M C n1 s2 t15 c31_0 c31_1 c31_2 c31_3 c31_4 c31_5 c31_6 c31_7 G = (bif t15 then some ([.c (.int .i64 0), .c (.int .i64 2)], G) else (C calc_Mul.id [.c (.int .i64 n1), .c (.int .i64 s2)] G).bind fun qr_1 => (((qr_1.1[0]?).bind V1.c?).bind (Cell.asI .i64)).bind fun qx_2 => (((qr_1.1[1]?).bind V1.c?).bind Cell.asB).bind fun qb_3 => bif (!qb_3) then class_Product.J14 M C qx_2 true qr_1.2 else class_Product.J14 M C qx_2 (decide (qx_2 > c31_1)) qr_1.2) := (M.hj _ _ _).trans (by kernel_rfl)
theorem class_Product.J14_eq (M : Mach) (C : Call) (p8 : Int) (t29 : Bool) (G : GH) : class_Product.J14 M C p8 t29 G = (bif t29 then some ([.c (.int .i64 0), .c (.int .i64 4)], G) else some ([.c (.int .i64 p8), .c (.int .i64 0)], G)) := (M.hj _ _ _).trans (by kernel_rfl)
def class_Product.f (M : Mach) (C : Call) (c0_0 : Int) (c0_1 : Int) (c0_2 : Int) (c0_3 : Int) (c0_4 : Int) (c0_5 : Int) (c0_6 : Int) (c0_7 : Int) (n1 : Int) (s2 : Int) (G : GH) : Option Res := bif decide (n1 < 0) then class_Product.J6 M C n1 s2 true c0_0 c0_1 c0_2 c0_3 c0_4 c0_5 c0_6 c0_7 G else class_Product.J6 M C n1 s2 (decide (s2 < 0)) c0_0 c0_1 c0_2 c0_3 c0_4 c0_5 c0_6 c0_7 G
theorem class_Product.eq (M : Mach) (C : Call) (c0_0 : Int) (c0_1 : Int) (c0_2 : Int) (c0_3 : Int) (c0_4 : Int) (c0_5 : Int) (c0_6 : Int) (c0_7 : Int) (n1 : Int) (s2 : Int) (G : GH) : runF M C class_Product.d [.agg [.int .i64 c0_0, .int .i64 c0_1, .int .i64 c0_2, .int .i64 c0_3, .int .i64 c0_4, .int .i64 c0_5, .int .i64 c0_6, .int .i64 c0_7], .c (.int .i64 n1), .c (.int .i64 s2)] G = class_Product.f M C c0_0 c0_1 c0_2 c0_3 c0_4 c0_5 c0_6 c0_7 n1 s2 G := by kernel_rfl

/- 25 (*hodman/hodmanplay.Picks).Raw -/
def hodmanplay_Picks_Raw.c10 : DCode := (.seq (.region [⟨0, some 30, .ldL 6 32 (.agg [.int .i64, .int .i64, .int .i64, .int .i64, .int .i64, .int .i64]), none⟩,
    ⟨1, none, .stL 4 31 (.t 30) 6, none⟩]) .ret)
def hodmanplay_Picks_Raw.d : DFn := { ntmps := 33, res := [.box 4 (some 6)], body := (.seq (.region [⟨0, some 4, .boxz 31 [] [.int .i64 0, .int .i64 0, .int .i64 0, .int .i64 0, .int .i64 0, .int .i64 0], none⟩]) (.seq (.region [⟨0, some 7, .move (.t 0), none⟩,
    ⟨1, some 8, .call 45 [.t 7, .k (.c (.int .i64 9))] [.c (.int .i64)], none⟩,
    ⟨2, some 9, .bin .add .i64 (.k (.c (.int .i64 1))) (.t 8), none⟩,
    ⟨3, some 5, .move (.t 9), none⟩]) (.seq (.region [⟨0, some 10, .move (.t 5), none⟩,
    ⟨1, some 11, .move (.t 5), none⟩,
    ⟨2, some 12, .move (.t 0), none⟩,
    ⟨3, some 13, .call 45 [.t 12, .k (.c (.int .i64 12))] [.c (.int .i64)], none⟩,
    ⟨4, some 14, .bin .add .i64 (.k (.c (.int .i64 1))) (.t 13), none⟩,
    ⟨5, some 15, .bin .mul .i64 (.t 11) (.t 14), none⟩,
    ⟨6, some 16, .move (.t 0), none⟩,
    ⟨7, some 17, .call 45 [.t 16, .k (.c (.int .i64 150))] [.c (.int .i64)], none⟩,
    ⟨8, some 18, .bin .add .i64 (.k (.c (.int .i64 1))) (.t 17), none⟩,
    ⟨9, some 19, .move (.t 0), none⟩,
    ⟨10, some 20, .call 45 [.t 19, .k (.c (.int .i64 30))] [.c (.int .i64)], none⟩,
    ⟨11, some 21, .bin .add .i64 (.k (.c (.int .i64 1))) (.t 20), none⟩,
    ⟨12, some 22, .move (.t 0), none⟩,
    ⟨13, some 23, .call 45 [.t 22, .k (.c (.int .i64 200))] [.c (.int .i64)], none⟩,
    ⟨14, some 24, .move (.t 0), none⟩,
    ⟨15, some 25, .call 45 [.t 24, .k (.c (.int .i64 20))] [.c (.int .i64)], none⟩,
    ⟨16, some 26, .bin .add .i64 (.k (.c (.int .i64 1))) (.t 25), none⟩,
    ⟨17, some 27, .build [.int .i64 0, .int .i64 0, .int .i64 0, .int .i64 0, .int .i64 0, .int .i64 0] [(0, 1, .t 10), (1, 1, .t 15), (2, 1, .t 18), (3, 1, .t 21), (5, 1, .t 23), (4, 1, .t 26)], none⟩,
    ⟨18, some 6, .boxz 32 [29] [.int .i64 0, .int .i64 0, .int .i64 0, .int .i64 0, .int .i64 0, .int .i64 0], none⟩,
    ⟨19, none, .stL 6 32 (.t 27) 6, none⟩]) (.seq (.seq (.region [⟨0, some 28, .move (.t 1), none⟩]) (.cond (.t 28) (.region [⟨0, some 29, .faddr 6 4, none⟩,
    ⟨1, none, .stL 29 32 (.k (.c (.int .i64 5000))) 1, none⟩]) .skip)) (.cut [4, 6, 31, 32] hodmanplay_Picks_Raw.c10))))) }
def hodmanplay_Picks_Raw.J10 (M : Mach) (C : Call) (x31_0 : Int) (x31_1 : Int) (x31_2 : Int) (x31_3 : Int) (x31_4 : Int) (x31_5 : Int) (r32_0 : Int) (r32_1 : Int) (r32_2 : Int) (r32_3 : Int) (r32_4 : Int) (r32_5 : Int) (G : GH) : Option Res := M.j (execC M.j C (M.ag C) hodmanplay_Picks_Raw.c10 ({ exits := [], ret := retK hodmanplay_Picks_Raw.d } : Env) (retK hodmanplay_Picks_Raw.d)) [.und, .und, .und, .und, .ref 31 0, .und, .ref 32 0, .und, .und, .und, .und, .und, .und, .und, .und, .und, .und, .und, .und, .und, .und, .und, .und, .und, .und, .und, .und, .und, .und, .und, .und, .box [.int .i64 x31_0, .int .i64 x31_1, .int .i64 x31_2, .int .i64 x31_3, .int .i64 x31_4, .int .i64 x31_5], .box [.int .i64 r32_0, .int .i64 r32_1, .int .i64 r32_2, .int .i64 r32_3, .int .i64 r32_4, .int .i64 r32_5]] G
theorem hodmanplay_Picks_Raw.J10_eq (M : Mach) (C : Call) (x31_0 : Int) (x31_1 : Int) (x31_2 : Int) (x31_3 : Int) (x31_4 : Int) (x31_5 : Int) (r32_0 : Int) (r32_1 : Int) (r32_2 : Int) (r32_3 : Int) (r32_4 : Int) (r32_5 : Int) (G : GH) : hodmanplay_Picks_Raw.J10 M C x31_0 x31_1 x31_2 x31_3 x31_4 x31_5 r32_0 r32_1 r32_2 r32_3 r32_4 r32_5 G = (some ([.agg [.int .i64 r32_0, .int .i64 r32_1, .int .i64 r32_2, .int .i64 r32_3, .int .i64 r32_4, .int .i64 r32_5]], G)) := (M.hj _ _ _).trans (by kernel_rfl)
def hodmanplay_Picks_Raw.f (M : Mach) (C : Call) (p0i : Nat) (p0o : Nat) (budget1 : Bool) (G : GH) : Option Res := (C hodmanplay_Picks_Num.id [.c (.ptr p0i p0o), .c (.int .i64 9)] G).bind fun qr_1 => (((qr_1.1[0]?).bind V1.c?).bind (Cell.asI .i64)).bind fun qx_2 => (C hodmanplay_Picks_Num.id [.c (.ptr p0i p0o), .c (.int .i64 12)] qr_1.2).bind fun qr_3 => (((qr_3.1[0]?).bind V1.c?).bind (Cell.asI .i64)).bind fun qx_4 => (C hodmanplay_Picks_Num.id [.c (.ptr p0i p0o), .c (.int .i64 150)] qr_3.2).bind fun qr_5 => (((qr_5.1[0]?).bind V1.c?).bind (Cell.asI .i64)).bind fun qx_6 => (C hodmanplay_Picks_Num.id [.c (.ptr p0i p0o), .c (.int .i64 30)] qr_5.2).bind fun qr_7 => (((qr_7.1[0]?).bind V1.c?).bind (Cell.asI .i64)).bind fun qx_8 => (C hodmanplay_Picks_Num.id [.c (.ptr p0i p0o), .c (.int .i64 200)] qr_7.2).bind fun qr_9 => (((qr_9.1[0]?).bind V1.c?).bind (Cell.asI .i64)).bind fun qx_10 => (C hodmanplay_Picks_Num.id [.c (.ptr p0i p0o), .c (.int .i64 20)] qr_9.2).bind fun qr_11 => (((qr_11.1[0]?).bind V1.c?).bind (Cell.asI .i64)).bind fun qx_12 => bif budget1 then hodmanplay_Picks_Raw.J10 M C 0 0 0 0 0 0 (IntKind.i64.wrap (1 + qx_2)) (IntKind.i64.wrap ((IntKind.i64.wrap (1 + qx_2)) * (IntKind.i64.wrap (1 + qx_4)))) (IntKind.i64.wrap (1 + qx_6)) (IntKind.i64.wrap (1 + qx_8)) 5000 qx_10 qr_11.2 else hodmanplay_Picks_Raw.J10 M C 0 0 0 0 0 0 (IntKind.i64.wrap (1 + qx_2)) (IntKind.i64.wrap ((IntKind.i64.wrap (1 + qx_2)) * (IntKind.i64.wrap (1 + qx_4)))) (IntKind.i64.wrap (1 + qx_6)) (IntKind.i64.wrap (1 + qx_8)) (IntKind.i64.wrap (1 + qx_12)) qx_10 qr_11.2
theorem hodmanplay_Picks_Raw.eq (M : Mach) (C : Call) (p0i : Nat) (p0o : Nat) (budget1 : Bool) (G : GH) : runF M C hodmanplay_Picks_Raw.d [.c (.ptr p0i p0o), .c (.bool budget1)] G = hodmanplay_Picks_Raw.f M C p0i p0o budget1 G := by kernel_rfl

/- 31 hodman/admit.New -/
def admit_New.c15 : DCode := (.cond (.t 37) (.seq (.region [⟨0, some 8, .move (.k (.c (.int .i64 0))), none⟩,
    ⟨1, some 9, .move (.k (.c (.int .i64 5))), none⟩]) .ret) .skip)
def admit_New.c20 : DCode := (.seq (.region [⟨0, some 38, .move (.t 10), none⟩,
    ⟨1, some 8, .move (.t 38), none⟩,
    ⟨2, some 9, .move (.k (.c (.int .i64 0))), none⟩]) .ret)
def admit_New.d : DFn := { ntmps := 40, res := [.t 8, .t 9], body := (.seq (.region [⟨0, some 4, .boxv 39 [34] (.t 0) 8, none⟩,
    ⟨1, some 8, .move (.k (.c (.int .i64 0))), none⟩,
    ⟨2, some 9, .move (.k (.c (.int .i64 0))), none⟩]) (.seq (.region [⟨0, some 15, .ldL 4 39 (.agg [.int .i64, .int .i64, .int .i64, .int .i64, .int .i64, .int .i64, .int .i64, .int .i64]), none⟩,
    ⟨1, some 16, .move (.t 2), none⟩,
    ⟨2, some 17, .move (.t 3), none⟩,
    ⟨3, some 18, .call 17 [.t 15, .t 16, .t 17] [.c (.int .i64), .c (.int .i64)], none⟩,
    ⟨4, some 14, .move (.t 18), none⟩,
    ⟨5, some 19, .ext 14 0, none⟩,
    ⟨6, some 20, .ext 14 1, none⟩,
    ⟨7, some 10, .move (.t 19), none⟩,
    ⟨8, some 11, .move (.t 20), none⟩]) (.seq (.seq (.region [⟨0, some 21, .move (.t 11), none⟩,
    ⟨1, some 22, .cmp .neq .i64 (.t 21) (.k (.c (.int .i64 0))), none⟩]) (.cond (.t 22) (.seq (.region [⟨0, some 23, .move (.t 11), none⟩,
    ⟨1, some 8, .move (.k (.c (.int .i64 0))), none⟩,
    ⟨2, some 9, .move (.t 23), none⟩]) .ret) .skip)) (.seq (.seq (.region [⟨0, some 25, .move (.t 1), none⟩,
    ⟨1, some 26, .move (.t 10), none⟩,
    ⟨2, some 27, .call 48 [.t 25, .t 26] [.c (.int .i64), .c (.bool)], none⟩,
    ⟨3, some 24, .move (.t 27), none⟩,
    ⟨4, some 28, .ext 24 0, none⟩,
    ⟨5, some 29, .ext 24 1, none⟩,
    ⟨6, some 12, .move (.t 28), none⟩,
    ⟨7, some 13, .move (.t 29), none⟩]) (.seq (.region [⟨0, some 30, .move (.t 13), none⟩,
    ⟨1, some 31, .not (.t 30), none⟩,
    ⟨2, some 32, .move (.t 31), none⟩,
    ⟨3, some 33, .move (.t 12), some (32, false)⟩,
    ⟨4, some 34, .faddr 4 2, some (32, false)⟩,
    ⟨5, some 35, .ldL 34 39 (.c (.int .i64)), some (32, false)⟩,
    ⟨6, some 36, .cmp .gtr .i64 (.t 33) (.t 35), some (32, false)⟩,
    ⟨7, some 37, .pick (.t 32) (.k (.c (.bool true))) (.t 36), none⟩]) (.cut [10, 37] admit_New.c15))) admit_New.c20)))) }
def admit_New.k20 (M : Mach) (C : Call) : Kont := execC M.j C (M.ag C) admit_New.c20 ({ exits := [], ret := retK admit_New.d } : Env) (retK admit_New.d)
def admit_New.J15 (M : Mach) (C : Call) (charge10 : Int) (t37 : Bool) (G : GH) : Option Res := M.j (execC M.j C (M.ag C) admit_New.c15 ({ exits := [], ret := retK admit_New.d } : Env) (admit_New.k20 M C)) [.und, .und, .und, .und, .und, .und, .und, .und, .und, .und, .v (.c (.int .i64 charge10)), .und, .und, .und, .und, .und, .und, .und, .und, .und, .und, .und, .und, .und, .und, .und, .und, .und, .und, .und, .und, .und, .und, .und, .und, .und, .und, .v (.c (.bool t37)), .und, .und] G
theorem admit_New.J15_eq (M : Mach) (C : Call) (charge10 : Int) (t37 : Bool) (G : GH) : admit_New.J15 M C charge10 t37 G = (bif t37 then some ([.c (.int .i64 0), .c (.int .i64 5)], G) else some ([.c (.int .i64 charge10), .c (.int .i64 0)], G)) := (M.hj _ _ _).trans (by kernel_rfl)
def admit_New.f (M : Mach) (C : Call) (c0_0 : Int) (c0_1 : Int) (c0_2 : Int) (c0_3 : Int) (c0_4 : Int) (c0_5 : Int) (c0_6 : Int) (c0_7 : Int) (live1 : Int) (s2 : Int) (a3 : Int) (G : GH) : Option Res := (C class_Charge.id [.agg [.int .i64 c0_0, .int .i64 c0_1, .int .i64 c0_2, .int .i64 c0_3, .int .i64 c0_4, .int .i64 c0_5, .int .i64 c0_6, .int .i64 c0_7], .c (.int .i64 s2), .c (.int .i64 a3)] G).bind fun qr_1 => (((qr_1.1[0]?).bind V1.c?).bind (Cell.asI .i64)).bind fun qx_2 => (((qr_1.1[1]?).bind V1.c?).bind (Cell.asI .i64)).bind fun qx_3 => bif (!decide (qx_3 = 0)) then some ([.c (.int .i64 0), .c (.int .i64 qx_3)], qr_1.2) else (C calc_Add.id [.c (.int .i64 live1), .c (.int .i64 qx_2)] qr_1.2).bind fun qr_4 => (((qr_4.1[0]?).bind V1.c?).bind (Cell.asI .i64)).bind fun qx_5 => (((qr_4.1[1]?).bind V1.c?).bind Cell.asB).bind fun qb_6 => bif (!qb_6) then admit_New.J15 M C qx_2 true qr_4.2 else admit_New.J15 M C qx_2 (decide (qx_5 > c0_2)) qr_4.2
theorem admit_New.eq (M : Mach) (C : Call) (c0_0 : Int) (c0_1 : Int) (c0_2 : Int) (c0_3 : Int) (c0_4 : Int) (c0_5 : Int) (c0_6 : Int) (c0_7 : Int) (live1 : Int) (s2 : Int) (a3 : Int) (G : GH) : runF M C admit_New.d [.agg [.int .i64 c0_0, .int .i64 c0_1, .int .i64 c0_2, .int .i64 c0_3, .int .i64 c0_4, .int .i64 c0_5, .int .i64 c0_6, .int .i64 c0_7], .c (.int .i64 live1), .c (.int .i64 s2), .c (.int .i64 a3)] G = admit_New.f M C c0_0 c0_1 c0_2 c0_3 c0_4 c0_5 c0_6 c0_7 live1 s2 a3 G := by kernel_rfl

/- 45 (*hodman/hodmanplay.Picks).Num -/
def hodmanplay_Picks_Num.c6 : DCode := (.cond (.t 18) (.seq (.region [⟨0, some 4, .move (.k (.c (.int .i64 0))), none⟩]) .ret) .skip)
def hodmanplay_Picks_Num.c12 : DCode := (.seq (.region [⟨0, some 19, .move (.t 0), none⟩,
    ⟨1, some 20, .nilck (.t 19), none⟩,
    ⟨2, some 21, .faddr 20 1, none⟩,
    ⟨3, some 22, .ldG 21 (.c (.int .i64)), none⟩,
    ⟨4, some 23, .bin .add .i64 (.t 22) (.k (.c (.int .i64 1))), none⟩,
    ⟨5, some 24, .nilck (.t 19), none⟩,
    ⟨6, some 25, .faddr 24 1, none⟩,
    ⟨7, none, .stG 25 (.t 23) 1, none⟩]) (.seq (.region [⟨0, some 26, .move (.t 0), none⟩,
    ⟨1, some 27, .nilck (.t 26), none⟩,
    ⟨2, some 28, .faddr 27 0, none⟩,
    ⟨3, some 29, .ldG 28 (.c (.sl 1)), none⟩,
    ⟨4, some 30, .move (.t 0), none⟩,
    ⟨5, some 31, .nilck (.t 30), none⟩,
    ⟨6, some 32, .faddr 31 1, none⟩,
    ⟨7, some 33, .ldG 32 (.c (.int .i64)), none⟩,
    ⟨8, some 34, .bin .sub .i64 (.t 33) (.k (.c (.int .i64 1))), none⟩,
    ⟨9, some 35, .iaddr (.t 29) (.t 34) 1, none⟩,
    ⟨10, some 36, .ldG 35 (.c (.int .u8)), none⟩,
    ⟨11, some 37, .conv .i64 (.t 36), none⟩,
    ⟨12, some 38, .move (.t 1), none⟩,
    ⟨13, some 39, .bin .rem .i64 (.t 37) (.t 38), none⟩,
    ⟨14, some 4, .move (.t 39), none⟩]) .ret))
def hodmanplay_Picks_Num.d : DFn := { ntmps := 40, res := [.t 4], body := (.seq (.region [⟨0, some 4, .move (.k (.c (.int .i64 0))), none⟩]) (.seq (.seq (.region [⟨0, some 5, .move (.t 0), none⟩,
    ⟨1, some 6, .nilck (.t 5), none⟩,
    ⟨2, some 7, .faddr 6 1, none⟩,
    ⟨3, some 8, .ldG 7 (.c (.int .i64)), none⟩,
    ⟨4, some 9, .move (.t 0), none⟩,
    ⟨5, some 10, .nilck (.t 9), none⟩,
    ⟨6, some 11, .faddr 10 0, none⟩,
    ⟨7, some 12, .ldG 11 (.c (.sl 1)), none⟩,
    ⟨8, some 13, .len (.t 12), none⟩,
    ⟨9, some 14, .cmp .geq .i64 (.t 8) (.t 13), none⟩,
    ⟨10, some 15, .move (.t 14), none⟩,
    ⟨11, some 16, .move (.t 1), some (15, false)⟩,
    ⟨12, some 17, .cmp .lss .i64 (.t 16) (.k (.c (.int .i64 1))), some (15, false)⟩,
    ⟨13, some 18, .pick (.t 15) (.k (.c (.bool true))) (.t 17), none⟩]) (.cut [0, 1, 18] hodmanplay_Picks_Num.c6)) hodmanplay_Picks_Num.c12)) }
def hodmanplay_Picks_Num.k12 (M : Mach) (C : Call) : Kont := execC M.j C (M.ag C) hodmanplay_Picks_Num.c12 ({ exits := [], ret := retK hodmanplay_Picks_Num.d } : Env) (retK hodmanplay_Picks_Num.d)
def hodmanplay_Picks_Num.J6 (M : Mach) (C : Call) (p0i : Nat) (p0o : Nat) (m1 : Int) (t18 : Bool) (G : GH) : Option Res := M.j (execC M.j C (M.ag C) hodmanplay_Picks_Num.c6 ({ exits := [], ret := retK hodmanplay_Picks_Num.d } : Env) (hodmanplay_Picks_Num.k12 M C)) [.v (.c (.ptr p0i p0o)), .v (.c (.int .i64 m1)), .und, .und, .und, .und, .und, .und, .und, .und, .und, .und, .und, .und, .und, .und, .und, .und, .v (.c (.bool t18)), .und, .und, .und, .und, .und, .und, .und, .und, .und, .und, .und, .und, .und, .und, .und, .und, .und, .und, .und, .und, .und] G
theorem hodmanplay_Picks_Num.J6_eq (M : Mach) (C : Call) (p0i : Nat) (p0o : Nat) (m1 : Int) (t18 : Bool) (G : GH) : hodmanplay_Picks_Num.J6 M C p0i p0o m1 t18 G = (bif t18 then some ([.c (.int .i64 0)], G) else guardK (!Nat.beq p0i 0) (((G.ld p0i (p0o + 1)).bind (Cell.asI .i64)).bind fun qx_3 => guardK (!Nat.beq p0i 0) ((G.sts p0i (p0o + 1) [.int .i64 (IntKind.i64.wrap (qx_3 + 1))]).bind fun qG_4 => guardK (!Nat.beq p0i 0) (((qG_4.ld p0i (p0o + 0)).bind (Cell.asS 1)).bind fun qs_5 => guardK (!Nat.beq p0i 0) (((qG_4.ld p0i (p0o + 1)).bind (Cell.asI .i64)).bind fun qx_6 => guardK (decide (0 ≤ IntKind.i64.wrap (qx_6 - 1) ∧ IntKind.i64.wrap (qx_6 - 1) < ((qs_5.2.2 : Nat) : Int))) (((qG_4.ld qs_5.1 (qs_5.2.1 + Int.toNat (IntKind.i64.wrap (qx_6 - 1)) * 1)).bind (Cell.asI .u8)).bind fun qx_7 => (binD .rem .i64 (IntKind.i64.wrap qx_7) m1).bind fun qx_8 => some ([.c (.int .i64 qx_8)], qG_4))))))) := (M.hj _ _ _).trans (by kernel_rfl)
def hodmanplay_Picks_Num.f (M : Mach) (C : Call) (p0i : Nat) (p0o : Nat) (m1 : Int) (G : GH) : Option Res := guardK (!Nat.beq p0i 0) (((G.ld p0i (p0o + 1)).bind (Cell.asI .i64)).bind fun qx_1 => guardK (!Nat.beq p0i 0) (((G.ld p0i (p0o + 0)).bind (Cell.asS 1)).bind fun qs_2 => bif decide (qx_1 ≥ ((qs_2.2.2 : Nat) : Int)) then hodmanplay_Picks_Num.J6 M C p0i p0o m1 true G else hodmanplay_Picks_Num.J6 M C p0i p0o m1 (decide (m1 < 1)) G))
theorem hodmanplay_Picks_Num.eq (M : Mach) (C : Call) (p0i : Nat) (p0o : Nat) (m1 : Int) (G : GH) : runF M C hodmanplay_Picks_Num.d [.c (.ptr p0i p0o), .c (.int .i64 m1)] G = hodmanplay_Picks_Num.f M C p0i p0o m1 G := by kernel_rfl

/- 37 hodman/calc.Log -/
def calc_Log.c6 : DCode := (.cond (.t 12) (.seq (.region [⟨0, some 2, .move (.k (.c (.int .i64 0))), none⟩,
    ⟨1, some 3, .move (.k (.c (.bool false))), none⟩]) .ret) .skip)
def calc_Log.c17 : DCode := (.seq (.seq (.region [⟨0, some 13, .move (.t 0), none⟩,
    ⟨1, some 14, .cmp .gtr .i64 (.t 13) (.k (.c (.int .i64 1))), none⟩]) (.cond (.t 14) .skip (.exit 0))) (.block 1 (.seq (.region [⟨0, some 15, .move (.t 0), none⟩,
    ⟨1, some 16, .bin .shr .i64 (.t 15) (.k (.c (.int .u64 1))), none⟩,
    ⟨2, some 0, .move (.t 16), none⟩]) (.region [⟨0, some 17, .move (.t 2), none⟩,
    ⟨1, some 18, .bin .add .i64 (.t 17) (.k (.c (.int .i64 1))), none⟩,
    ⟨2, some 2, .move (.t 18), none⟩]))))
def calc_Log.c22 : DCode := (.seq (.region [⟨0, some 19, .move (.t 2), none⟩,
    ⟨1, some 2, .move (.t 19), none⟩,
    ⟨2, some 3, .move (.k (.c (.bool true))), none⟩]) .ret)
def calc_Log.c23 : DCode := (.seq (.block 0 (.loop [0, 2] calc_Log.c17)) calc_Log.c22)
def calc_Log.d : DFn := { ntmps := 20, res := [.t 2, .t 3], body := (.seq (.region [⟨0, some 2, .move (.k (.c (.int .i64 0))), none⟩,
    ⟨1, some 3, .move (.k (.c (.bool false))), none⟩]) (.seq (.seq (.region [⟨0, some 4, .move (.t 0), none⟩,
    ⟨1, some 5, .cmp .lss .i64 (.t 4) (.k (.c (.int .i64 1))), none⟩,
    ⟨2, some 6, .move (.t 5), none⟩,
    ⟨3, some 7, .move (.t 0), some (6, false)⟩,
    ⟨4, some 8, .move (.t 0), some (6, false)⟩,
    ⟨5, some 9, .bin .sub .i64 (.t 8) (.k (.c (.int .i64 1))), some (6, false)⟩,
    ⟨6, some 10, .bin .and .i64 (.t 7) (.t 9), some (6, false)⟩,
    ⟨7, some 11, .cmp .neq .i64 (.t 10) (.k (.c (.int .i64 0))), some (6, false)⟩,
    ⟨8, some 12, .pick (.t 6) (.k (.c (.bool true))) (.t 11), none⟩]) (.cut [0, 2, 12] calc_Log.c6)) calc_Log.c23)) }
def calc_Log.k23 (M : Mach) (C : Call) : Kont := execC M.j C (M.ag C) calc_Log.c23 ({ exits := [], ret := retK calc_Log.d } : Env) (retK calc_Log.d)
def calc_Log.J6 (M : Mach) (C : Call) (v0 : Int) (n2 : Int) (t12 : Bool) (G : GH) : Option Res := M.j (execC M.j C (M.ag C) calc_Log.c6 ({ exits := [], ret := retK calc_Log.d } : Env) (calc_Log.k23 M C)) [.v (.c (.int .i64 v0)), .und, .v (.c (.int .i64 n2)), .und, .und, .und, .und, .und, .und, .und, .und, .und, .v (.c (.bool t12)), .und, .und, .und, .und, .und, .und, .und] G
def calc_Log.k22 (M : Mach) (C : Call) : Kont := execC M.j C (M.ag C) calc_Log.c22 ({ exits := [], ret := retK calc_Log.d } : Env) (retK calc_Log.d)
def calc_Log.e19 (M : Mach) (C : Call) : Env := { exits := (0, (calc_Log.k22 M C)) :: (({ exits := [], ret := retK calc_Log.d } : Env)).exits, ret := (({ exits := [], ret := retK calc_Log.d } : Env)).ret }
def calc_Log.L18 (M : Mach) (C : Call) (v0 : Int) (n2 : Int) (G : GH) : Option Res := M.ag C [0, 2] calc_Log.c17 (calc_Log.e19 M C) (calc_Log.k22 M C) [.v (.c (.int .i64 v0)), .und, .v (.c (.int .i64 n2)), .und, .und, .und, .und, .und, .und, .und, .und, .und, .und, .und, .und, .und, .und, .und, .und, .und] G
theorem calc_Log.J6_eq (M : Mach) (C : Call) (v0 : Int) (n2 : Int) (t12 : Bool) (G : GH) : calc_Log.J6 M C v0 n2 t12 G = (bif t12 then some ([.c (.int .i64 0), .c (.bool false)], G) else calc_Log.L18 M C v0 n2 G) := (M.hj _ _ _).trans (by kernel_rfl)
theorem calc_Log.L18_eq (M : Mach) (C : Call) (v0 : Int) (n2 : Int) (G : GH) : calc_Log.L18 M C v0 n2 G = (bif decide (v0 > 1) then calc_Log.L18 M C (Int.fdiv v0 (2 ^ (min (1 : Int).toNat IntKind.i64.bits))) (IntKind.i64.wrap (n2 + 1)) G else some ([.c (.int .i64 n2), .c (.bool true)], G)) := (M.hs _ _ _ _ _ _ _).trans (by kernel_rfl)
def calc_Log.f (M : Mach) (C : Call) (v0 : Int) (G : GH) : Option Res := bif decide (v0 < 1) then calc_Log.J6 M C v0 0 true G else calc_Log.J6 M C v0 0 (!decide (IntKind.i64.wrap (((BitVec.ofInt IntKind.i64.bits v0) &&& (BitVec.ofInt IntKind.i64.bits (IntKind.i64.wrap (v0 - 1)))).toNat : Int) = 0)) G
theorem calc_Log.eq (M : Mach) (C : Call) (v0 : Int) (G : GH) : runF M C calc_Log.d [.c (.int .i64 v0)] G = calc_Log.f M C v0 G := by kernel_rfl

/- 39 hodman/hodmanref1.Log -/
def hodmanref1_Log.c22 : DCode := (.region [⟨0, some 8, .move (.t 5), none⟩,
    ⟨1, some 9, .bin .add .i64 (.t 8) (.k (.c (.int .i64 1))), none⟩,
    ⟨2, some 5, .move (.t 9), none⟩])
def hodmanref1_Log.c24 : DCode := (.seq (.seq (.region [⟨0, some 6, .move (.t 5), none⟩,
    ⟨1, some 7, .cmp .lss .i64 (.t 6) (.k (.c (.int .i64 63))), none⟩]) (.cond (.t 7) .skip (.exit 0))) (.seq (.block 1 (.seq (.seq (.region [⟨0, some 10, .move (.t 4), none⟩,
    ⟨1, some 11, .move (.t 0), none⟩,
    ⟨2, some 12, .cmp .eql .i64 (.t 10) (.t 11), none⟩]) (.cond (.t 12) (.seq (.region [⟨0, some 13, .move (.t 5), none⟩,
    ⟨1, some 2, .move (.t 13), none⟩,
    ⟨2, some 3, .move (.k (.c (.bool true))), none⟩]) .ret) .skip)) (.seq (.region [⟨0, some 14, .move (.t 5), none⟩,
    ⟨1, some 15, .cmp .lss .i64 (.t 14) (.k (.c (.int .i64 62))), none⟩]) (.cond (.t 15) (.region [⟨0, some 16, .move (.t 4), none⟩,
    ⟨1, some 17, .bin .mul .i64 (.t 16) (.k (.c (.int .i64 2))), none⟩,
    ⟨2, some 4, .move (.t 17), none⟩]) .skip)))) (.cut [0, 4, 5] hodmanref1_Log.c22)))
def hodmanref1_Log.c25 : DCode := (.loop [0, 4, 5] hodmanref1_Log.c24)
def hodmanref1_Log.c30 : DCode := (.seq (.region [⟨0, some 2, .move (.k (.c (.int .i64 0))), none⟩,
    ⟨1, some 3, .move (.k (.c (.bool false))), none⟩]) .ret)
def hodmanref1_Log.d : DFn := { ntmps := 18, res := [.t 2, .t 3], body := (.seq (.region [⟨0, some 2, .move (.k (.c (.int .i64 0))), none⟩,
    ⟨1, some 3, .move (.k (.c (.bool false))), none⟩]) (.seq (.region [⟨0, some 4, .move (.k (.c (.int .i64 1))), none⟩]) (.seq (.seq (.region [⟨0, some 5, .move (.k (.c (.int .i64 0))), none⟩]) (.block 0 hodmanref1_Log.c25)) hodmanref1_Log.c30))) }
def hodmanref1_Log.k30 (M : Mach) (C : Call) : Kont := execC M.j C (M.ag C) hodmanref1_Log.c30 ({ exits := [], ret := retK hodmanref1_Log.d } : Env) (retK hodmanref1_Log.d)
def hodmanref1_Log.e26 (M : Mach) (C : Call) : Env := { exits := (0, (hodmanref1_Log.k30 M C)) :: (({ exits := [], ret := retK hodmanref1_Log.d } : Env)).exits, ret := (({ exits := [], ret := retK hodmanref1_Log.d } : Env)).ret }
def hodmanref1_Log.L25 (M : Mach) (C : Call) (v0 : Int) (p4 : Int) (n5 : Int) (G : GH) : Option Res := M.ag C [0, 4, 5] hodmanref1_Log.c24 (hodmanref1_Log.e26 M C) (hodmanref1_Log.k30 M C) [.v (.c (.int .i64 v0)), .und, .und, .und, .v (.c (.int .i64 p4)), .v (.c (.int .i64 n5)), .und, .und, .und, .und, .und, .und, .und, .und, .und, .und, .und, .und] G
def hodmanref1_Log.k25 (M : Mach) (C : Call) : Kont := fun tm G => M.ag C [0, 4, 5] hodmanref1_Log.c24 (hodmanref1_Log.e26 M C) (hodmanref1_Log.k30 M C) (restr [0, 4, 5] 0 tm) G
def hodmanref1_Log.J22 (M : Mach) (C : Call) (v0 : Int) (p4 : Int) (n5 : Int) (G : GH) : Option Res := M.j (execC M.j C (M.ag C) hodmanref1_Log.c22 (hodmanref1_Log.e26 M C) (hodmanref1_Log.k25 M C)) [.v (.c (.int .i64 v0)), .und, .und, .und, .v (.c (.int .i64 p4)), .v (.c (.int .i64 n5)), .und, .und, .und, .und, .und, .und, .und, .und, .und, .und, .und, .und] G
theorem hodmanref1_Log.L25_eq (M : Mach) (C : Call) (v0 : Int) (p4 : Int) (n5 : Int) (G : GH) : hodmanref1_Log.L25 M C v0 p4 n5 G = (bif decide (n5 < 63) then bif decide (p4 = v0) then some ([.c (.int .i64 n5), .c (.bool true)], G) else bif decide (n5 < 62) then hodmanref1_Log.J22 M C v0 (IntKind.i64.wrap (p4 * 2)) n5 G else hodmanref1_Log.J22 M C v0 p4 n5 G else some ([.c (.int .i64 0), .c (.bool false)], G)) := (M.hs _ _ _ _ _ _ _).trans (by kernel_rfl)
theorem hodmanref1_Log.J22_eq (M : Mach) (C : Call) (v0 : Int) (p4 : Int) (n5 : Int) (G : GH) : hodmanref1_Log.J22 M C v0 p4 n5 G = (hodmanref1_Log.L25 M C v0 p4 (IntKind.i64.wrap (n5 + 1)) G) := (M.hj _ _ _).trans (by kernel_rfl)
def hodmanref1_Log.f (M : Mach) (C : Call) (v0 : Int) (G : GH) : Option Res := hodmanref1_Log.L25 M C v0 1 0 G
theorem hodmanref1_Log.eq (M : Mach) (C : Call) (v0 : Int) (G : GH) : runF M C hodmanref1_Log.d [.c (.int .i64 v0)] G = hodmanref1_Log.f M C v0 G := by kernel_rfl

/- 40 hodman/hodmanref1.Up -/
def hodmanref1_Up.c6 : DCode := (.cond (.t 10) (.seq (.region [⟨0, some 2, .move (.k (.c (.int .i64 0))), none⟩,
    ⟨1, some 3, .move (.k (.c (.bool false))), none⟩]) .ret) .skip)
def hodmanref1_Up.c16 : DCode := (.seq (.seq (.region [⟨0, some 11, .move (.t 4), none⟩,
    ⟨1, some 12, .move (.t 0), none⟩,
    ⟨2, some 13, .cmp .lss .i64 (.t 11) (.t 12), none⟩]) (.cond (.t 13) .skip (.exit 0))) (.block 1 (.region [⟨0, some 14, .move (.t 4), none⟩,
    ⟨1, some 15, .bin .mul .i64 (.t 14) (.k (.c (.int .i64 2))), none⟩,
    ⟨2, some 4, .move (.t 15), none⟩])))
def hodmanref1_Up.c21 : DCode := (.seq (.region [⟨0, some 16, .move (.t 4), none⟩,
    ⟨1, some 2, .move (.t 16), none⟩,
    ⟨2, some 3, .move (.k (.c (.bool true))), none⟩]) .ret)
def hodmanref1_Up.c23 : DCode := (.seq (.region [⟨0, some 4, .move (.k (.c (.int .i64 1))), none⟩]) (.seq (.block 0 (.loop [0, 4] hodmanref1_Up.c16)) hodmanref1_Up.c21))
def hodmanref1_Up.d : DFn := { ntmps := 17, res := [.t 2, .t 3], body := (.seq (.region [⟨0, some 2, .move (.k (.c (.int .i64 0))), none⟩,
    ⟨1, some 3, .move (.k (.c (.bool false))), none⟩]) (.seq (.seq (.region [⟨0, some 5, .move (.t 0), none⟩,
    ⟨1, some 6, .cmp .lss .i64 (.t 5) (.k (.c (.int .i64 1))), none⟩,
    ⟨2, some 7, .move (.t 6), none⟩,
    ⟨3, some 8, .move (.t 0), some (7, false)⟩,
    ⟨4, some 9, .cmp .gtr .i64 (.t 8) (.k (.c (.int .i64 4611686018427387904))), some (7, false)⟩,
    ⟨5, some 10, .pick (.t 7) (.k (.c (.bool true))) (.t 9), none⟩]) (.cut [0, 10] hodmanref1_Up.c6)) hodmanref1_Up.c23)) }
def hodmanref1_Up.k23 (M : Mach) (C : Call) : Kont := execC M.j C (M.ag C) hodmanref1_Up.c23 ({ exits := [], ret := retK hodmanref1_Up.d } : Env) (retK hodmanref1_Up.d)
def hodmanref1_Up.J6 (M : Mach) (C : Call) (v0 : Int) (t10 : Bool) (G : GH) : Option Res := M.j (execC M.j C (M.ag C) hodmanref1_Up.c6 ({ exits := [], ret := retK hodmanref1_Up.d } : Env) (hodmanref1_Up.k23 M C)) [.v (.c (.int .i64 v0)), .und, .und, .und, .und, .und, .und, .und, .und, .und, .v (.c (.bool t10)), .und, .und, .und, .und, .und, .und] G
def hodmanref1_Up.k21 (M : Mach) (C : Call) : Kont := execC M.j C (M.ag C) hodmanref1_Up.c21 ({ exits := [], ret := retK hodmanref1_Up.d } : Env) (retK hodmanref1_Up.d)
def hodmanref1_Up.e18 (M : Mach) (C : Call) : Env := { exits := (0, (hodmanref1_Up.k21 M C)) :: (({ exits := [], ret := retK hodmanref1_Up.d } : Env)).exits, ret := (({ exits := [], ret := retK hodmanref1_Up.d } : Env)).ret }
def hodmanref1_Up.L17 (M : Mach) (C : Call) (v0 : Int) (p4 : Int) (G : GH) : Option Res := M.ag C [0, 4] hodmanref1_Up.c16 (hodmanref1_Up.e18 M C) (hodmanref1_Up.k21 M C) [.v (.c (.int .i64 v0)), .und, .und, .und, .v (.c (.int .i64 p4)), .und, .und, .und, .und, .und, .und, .und, .und, .und, .und, .und, .und] G
theorem hodmanref1_Up.J6_eq (M : Mach) (C : Call) (v0 : Int) (t10 : Bool) (G : GH) : hodmanref1_Up.J6 M C v0 t10 G = (bif t10 then some ([.c (.int .i64 0), .c (.bool false)], G) else hodmanref1_Up.L17 M C v0 1 G) := (M.hj _ _ _).trans (by kernel_rfl)
theorem hodmanref1_Up.L17_eq (M : Mach) (C : Call) (v0 : Int) (p4 : Int) (G : GH) : hodmanref1_Up.L17 M C v0 p4 G = (bif decide (p4 < v0) then hodmanref1_Up.L17 M C v0 (IntKind.i64.wrap (p4 * 2)) G else some ([.c (.int .i64 p4), .c (.bool true)], G)) := (M.hs _ _ _ _ _ _ _).trans (by kernel_rfl)
def hodmanref1_Up.f (M : Mach) (C : Call) (v0 : Int) (G : GH) : Option Res := bif decide (v0 < 1) then hodmanref1_Up.J6 M C v0 true G else hodmanref1_Up.J6 M C v0 (decide (v0 > 4611686018427387904)) G
theorem hodmanref1_Up.eq (M : Mach) (C : Call) (v0 : Int) (G : GH) : runF M C hodmanref1_Up.d [.c (.int .i64 v0)] G = hodmanref1_Up.f M C v0 G := by kernel_rfl

/- 16 (*hodman/hodmanplay.Picks).Conf -/
def hodmanplay_Picks_Conf.d : DFn := { ntmps := 23, res := [.box 4 (some 8), .box 5 (some 6)], body := (.seq (.region [⟨0, some 4, .boxz 19 [] [.int .i64 0, .int .i64 0, .int .i64 0, .int .i64 0, .int .i64 0, .int .i64 0, .int .i64 0, .int .i64 0], none⟩,
    ⟨1, some 5, .boxz 20 [] [.int .i64 0, .int .i64 0, .int .i64 0, .int .i64 0, .int .i64 0, .int .i64 0], none⟩]) (.seq (.region [⟨0, some 9, .move (.t 0), none⟩,
    ⟨1, some 10, .move (.t 1), none⟩,
    ⟨2, some 11, .call 25 [.t 9, .t 10] [.agg [.int .i64, .int .i64, .int .i64, .int .i64, .int .i64, .int .i64]], none⟩,
    ⟨3, some 6, .boxz 21 [] [.int .i64 0, .int .i64 0, .int .i64 0, .int .i64 0, .int .i64 0, .int .i64 0], none⟩,
    ⟨4, none, .stL 6 21 (.t 11) 6, none⟩]) (.seq (.region [⟨0, some 13, .ldL 6 21 (.agg [.int .i64, .int .i64, .int .i64, .int .i64, .int .i64, .int .i64]), none⟩,
    ⟨1, some 14, .call 23 [.t 13] [.agg [.int .i64, .int .i64, .int .i64, .int .i64, .int .i64, .int .i64, .int .i64, .int .i64], .c (.int .i64)], none⟩,
    ⟨2, some 12, .move (.t 14), none⟩,
    ⟨3, some 15, .ext 12 0, none⟩,
    ⟨4, some 16, .ext 12 1, none⟩,
    ⟨5, some 7, .boxz 22 [] [.int .i64 0, .int .i64 0, .int .i64 0, .int .i64 0, .int .i64 0, .int .i64 0, .int .i64 0, .int .i64 0], none⟩,
    ⟨6, none, .stL 7 22 (.t 15) 8, none⟩,
    ⟨7, some 8, .move (.t 16), none⟩]) (.seq (.region [⟨0, some 17, .ldL 7 22 (.agg [.int .i64, .int .i64, .int .i64, .int .i64, .int .i64, .int .i64, .int .i64, .int .i64]), none⟩,
    ⟨1, some 18, .ldL 6 21 (.agg [.int .i64, .int .i64, .int .i64, .int .i64, .int .i64, .int .i64]), none⟩,
    ⟨2, none, .stL 4 19 (.t 17) 8, none⟩,
    ⟨3, none, .stL 5 20 (.t 18) 6, none⟩]) .ret)))) }
def hodmanplay_Picks_Conf.f (M : Mach) (C : Call) (p0i : Nat) (p0o : Nat) (budget1 : Bool) (G : GH) : Option Res := (C hodmanplay_Picks_Raw.id [.c (.ptr p0i p0o), .c (.bool budget1)] G).bind fun qr_1 => ((qr_1.1[0]?).bind V1.a?).bind fun qcs_2 => if qcs_2.length = 6 then (((qcs_2[0]?).bind (Cell.asI .i64)).bind fun qx_3 => ((qcs_2[1]?).bind (Cell.asI .i64)).bind fun qx_4 => ((qcs_2[2]?).bind (Cell.asI .i64)).bind fun qx_5 => ((qcs_2[3]?).bind (Cell.asI .i64)).bind fun qx_6 => ((qcs_2[4]?).bind (Cell.asI .i64)).bind fun qx_7 => ((qcs_2[5]?).bind (Cell.asI .i64)).bind fun qx_8 => (C hodmanref1_Of.id [.agg [.int .i64 qx_3, .int .i64 qx_4, .int .i64 qx_5, .int .i64 qx_6, .int .i64 qx_7, .int .i64 qx_8]] qr_1.2).bind fun qr_9 => ((qr_9.1[0]?).bind V1.a?).bind fun qcs_10 => if qcs_10.length = 8 then (((qcs_10[0]?).bind (Cell.asI .i64)).bind fun qx_11 => ((qcs_10[1]?).bind (Cell.asI .i64)).bind fun qx_12 => ((qcs_10[2]?).bind (Cell.asI .i64)).bind fun qx_13 => ((qcs_10[3]?).bind (Cell.asI .i64)).bind fun qx_14 => ((qcs_10[4]?).bind (Cell.asI .i64)).bind fun qx_15 => ((qcs_10[5]?).bind (Cell.asI .i64)).bind fun qx_16 => ((qcs_10[6]?).bind (Cell.asI .i64)).bind fun qx_17 => ((qcs_10[7]?).bind (Cell.asI .i64)).bind fun qx_18 => (((qr_9.1[1]?).bind V1.c?).bind (Cell.asI .i64)).bind fun qx_19 => some ([.agg [.int .i64 qx_11, .int .i64 qx_12, .int .i64 qx_13, .int .i64 qx_14, .int .i64 qx_15, .int .i64 qx_16, .int .i64 qx_17, .int .i64 qx_18], .agg [.int .i64 qx_3, .int .i64 qx_4, .int .i64 qx_5, .int .i64 qx_6, .int .i64 qx_7, .int .i64 qx_8]], qr_9.2)) else none) else none
theorem hodmanplay_Picks_Conf.eq (M : Mach) (C : Call) (p0i : Nat) (p0o : Nat) (budget1 : Bool) (G : GH) : runF M C hodmanplay_Picks_Conf.d [.c (.ptr p0i p0o), .c (.bool budget1)] G = hodmanplay_Picks_Conf.f M C p0i p0o budget1 G := by kernel_rfl

/- 49 hodman/hodmanref1.Add -/
def hodmanref1_Add.c6 : DCode := (.cond (.t 23) (.seq (.region [⟨0, some 4, .move (.k (.c (.int .i64 0))), none⟩,
    ⟨1, some 5, .move (.k (.c (.bool false))), none⟩]) .ret) .skip)
def hodmanref1_Add.c10 : DCode := (.seq (.region [⟨0, some 24, .move (.t 0), none⟩,
    ⟨1, some 25, .move (.t 1), none⟩,
    ⟨2, some 26, .bin .add .i64 (.t 24) (.t 25), none⟩,
    ⟨3, some 4, .move (.t 26), none⟩,
    ⟨4, some 5, .move (.k (.c (.bool true))), none⟩]) .ret)
def hodmanref1_Add.d : DFn := { ntmps := 27, res := [.t 4, .t 5], body := (.seq (.region [⟨0, some 4, .move (.k (.c (.int .i64 0))), none⟩,
    ⟨1, some 5, .move (.k (.c (.bool false))), none⟩]) (.seq (.seq (.region [⟨0, some 6, .move (.t 1), none⟩,
    ⟨1, some 7, .cmp .gtr .i64 (.t 6) (.k (.c (.int .i64 0))), none⟩,
    ⟨2, some 8, .move (.t 7), none⟩,
    ⟨3, some 9, .move (.t 0), some (8, true)⟩,
    ⟨4, some 10, .move (.t 1), some (8, true)⟩,
    ⟨5, some 11, .bin .sub .i64 (.k (.c (.int .i64 9223372036854775807))) (.t 10), some (8, true)⟩,
    ⟨6, some 12, .cmp .gtr .i64 (.t 9) (.t 11), some (8, true)⟩,
    ⟨7, some 13, .pick (.t 8) (.t 12) (.k (.c (.bool false))), none⟩,
    ⟨8, some 14, .move (.t 13), none⟩,
    ⟨9, some 15, .move (.t 1), some (14, false)⟩,
    ⟨10, some 16, .cmp .lss .i64 (.t 15) (.k (.c (.int .i64 0))), some (14, false)⟩,
    ⟨11, some 17, .move (.t 16), some (14, false)⟩,
    ⟨12, some 18, .move (.t 0), some (17, true)⟩,
    ⟨13, some 19, .move (.t 1), some (17, true)⟩,
    ⟨14, some 20, .bin .sub .i64 (.k (.c (.int .i64 (-9223372036854775808)))) (.t 19), some (17, true)⟩,
    ⟨15, some 21, .cmp .lss .i64 (.t 18) (.t 20), some (17, true)⟩,
    ⟨16, some 22, .pick (.t 17) (.t 21) (.k (.c (.bool false))), some (14, false)⟩,
    ⟨17, some 23, .pick (.t 14) (.k (.c (.bool true))) (.t 22), none⟩]) (.cut [0, 1, 23] hodmanref1_Add.c6)) hodmanref1_Add.c10)) }
def hodmanref1_Add.k10 (M : Mach) (C : Call) : Kont := execC M.j C (M.ag C) hodmanref1_Add.c10 ({ exits := [], ret := retK hodmanref1_Add.d } : Env) (retK hodmanref1_Add.d)
def hodmanref1_Add.J6 (M : Mach) (C : Call) (a0 : Int) (b1 : Int) (t23 : Bool) (G : GH) : Option Res := M.j (execC M.j C (M.ag C) hodmanref1_Add.c6 ({ exits := [], ret := retK hodmanref1_Add.d } : Env) (hodmanref1_Add.k10 M C)) [.v (.c (.int .i64 a0)), .v (.c (.int .i64 b1)), .und, .und, .und, .und, .und, .und, .und, .und, .und, .und, .und, .und, .und, .und, .und, .und, .und, .und, .und, .und, .und, .v (.c (.bool t23)), .und, .und, .und] G
theorem hodmanref1_Add.J6_eq (M : Mach) (C : Call) (a0 : Int) (b1 : Int) (t23 : Bool) (G : GH) : hodmanref1_Add.J6 M C a0 b1 t23 G = (bif t23 then some ([.c (.int .i64 0), .c (.bool false)], G) else some ([.c (.int .i64 (IntKind.i64.wrap (a0 + b1))), .c (.bool true)], G)) := (M.hj _ _ _).trans (by kernel_rfl)
def hodmanref1_Add.f (M : Mach) (C : Call) (a0 : Int) (b1 : Int) (G : GH) : Option Res := bif decide (b1 > 0) then bif decide (a0 > IntKind.i64.wrap (9223372036854775807 - b1)) then hodmanref1_Add.J6 M C a0 b1 true G else bif decide (b1 < 0) then hodmanref1_Add.J6 M C a0 b1 (decide (a0 < IntKind.i64.wrap ((-9223372036854775808) - b1))) G else hodmanref1_Add.J6 M C a0 b1 false G else bif decide (b1 < 0) then hodmanref1_Add.J6 M C a0 b1 (decide (a0 < IntKind.i64.wrap ((-9223372036854775808) - b1))) G else hodmanref1_Add.J6 M C a0 b1 false G
theorem hodmanref1_Add.eq (M : Mach) (C : Call) (a0 : Int) (b1 : Int) (G : GH) : runF M C hodmanref1_Add.d [.c (.int .i64 a0), .c (.int .i64 b1)] G = hodmanref1_Add.f M C a0 b1 G := by kernel_rfl

/- 44 hodman/hodmanref1.Round -/
def hodmanref1_Round.c6 : DCode := (.cond (.t 11) (.seq (.region [⟨0, some 4, .move (.k (.c (.int .i64 0))), none⟩,
    ⟨1, some 5, .move (.k (.c (.bool false))), none⟩]) .ret) .skip)
def hodmanref1_Round.c18 : DCode := (.seq (.seq (.region [⟨0, some 12, .move (.t 0), none⟩,
    ⟨1, some 13, .move (.t 1), none⟩,
    ⟨2, some 14, .bin .rem .i64 (.t 12) (.t 13), none⟩,
    ⟨3, some 15, .cmp .eql .i64 (.t 14) (.k (.c (.int .i64 0))), none⟩]) (.cond (.t 15) (.seq (.region [⟨0, some 16, .move (.t 0), none⟩,
    ⟨1, some 4, .move (.t 16), none⟩,
    ⟨2, some 5, .move (.k (.c (.bool true))), none⟩]) .ret) .skip)) (.seq (.region [⟨0, some 17, .move (.t 0), none⟩,
    ⟨1, some 18, .move (.t 0), none⟩,
    ⟨2, some 19, .move (.t 1), none⟩,
    ⟨3, some 20, .bin .rem .i64 (.t 18) (.t 19), none⟩,
    ⟨4, some 21, .bin .sub .i64 (.t 17) (.t 20), none⟩,
    ⟨5, some 22, .move (.t 1), none⟩,
    ⟨6, some 23, .call 49 [.t 21, .t 22] [.c (.int .i64), .c (.bool)], none⟩,
    ⟨7, some 24, .ext 23 0, none⟩,
    ⟨8, some 25, .ext 23 1, none⟩,
    ⟨9, some 4, .move (.t 24), none⟩,
    ⟨10, some 5, .move (.t 25), none⟩]) .ret))
def hodmanref1_Round.d : DFn := { ntmps := 26, res := [.t 4, .t 5], body := (.seq (.region [⟨0, some 4, .move (.k (.c (.int .i64 0))), none⟩,
    ⟨1, some 5, .move (.k (.c (.bool false))), none⟩]) (.seq (.seq (.region [⟨0, some 6, .move (.t 0), none⟩,
    ⟨1, some 7, .cmp .lss .i64 (.t 6) (.k (.c (.int .i64 0))), none⟩,
    ⟨2, some 8, .move (.t 7), none⟩,
    ⟨3, some 9, .move (.t 1), some (8, false)⟩,
    ⟨4, some 10, .cmp .lss .i64 (.t 9) (.k (.c (.int .i64 1))), some (8, false)⟩,
    ⟨5, some 11, .pick (.t 8) (.k (.c (.bool true))) (.t 10), none⟩]) (.cut [0, 1, 11] hodmanref1_Round.c6)) hodmanref1_Round.c18)) }
def hodmanref1_Round.k18 (M : Mach) (C : Call) : Kont := execC M.j C (M.ag C) hodmanref1_Round.c18 ({ exits := [], ret := retK hodmanref1_Round.d } : Env) (retK hodmanref1_Round.d)
def hodmanref1_Round.J6 (M : Mach) (C : Call) (v0 : Int) (to1 : Int) (t11 : Bool) (G : GH) : Option Res := M.j (execC M.j C (M.ag C) hodmanref1_Round.c6 ({ exits := [], ret := retK hodmanref1_Round.d } : Env) (hodmanref1_Round.k18 M C)) [.v (.c (.int .i64 v0)), .v (.c (.int .i64 to1)), .und, .und, .und, .und, .und, .und, .und, .und, .und, .v (.c (.bool t11)), .und, .und, .und, .und, .und, .und, .und, .und, .und, .und, .und, .und, .und, .und] G
theorem hodmanref1_Round.J6_eq (M : Mach) (C : Call) (v0 : Int) (to1 : Int) (t11 : Bool) (G : GH) : hodmanref1_Round.J6 M C v0 to1 t11 G = (bif t11 then some ([.c (.int .i64 0), .c (.bool false)], G) else (binD .rem .i64 v0 to1).bind fun qx_1 => bif decide (qx_1 = 0) then some ([.c (.int .i64 v0), .c (.bool true)], G) else (binD .rem .i64 v0 to1).bind fun qx_2 => (C hodmanref1_Add.id [.c (.int .i64 (IntKind.i64.wrap (v0 - qx_2))), .c (.int .i64 to1)] G).bind fun qr_3 => (((qr_3.1[0]?).bind V1.c?).bind (Cell.asI .i64)).bind fun qx_4 => (((qr_3.1[1]?).bind V1.c?).bind Cell.asB).bind fun qb_5 => some ([.c (.int .i64 qx_4), .c (.bool qb_5)], qr_3.2)) := (M.hj _ _ _).trans (by kernel_rfl)
def hodmanref1_Round.f (M : Mach) (C : Call) (v0 : Int) (to1 : Int) (G : GH) : Option Res := bif decide (v0 < 0) then hodmanref1_Round.J6 M C v0 to1 true G else hodmanref1_Round.J6 M C v0 to1 (decide (to1 < 1)) G
theorem hodmanref1_Round.eq (M : Mach) (C : Call) (v0 : Int) (to1 : Int) (G : GH) : runF M C hodmanref1_Round.d [.c (.int .i64 v0), .c (.int .i64 to1)] G = hodmanref1_Round.f M C v0 to1 G := by kernel_rfl

/- 38 hodman/calc.Up -/
def calc_Up.c6 : DCode := (.cond (.t 10) (.seq (.region [⟨0, some 2, .move (.k (.c (.int .i64 0))), none⟩,
    ⟨1, some 3, .move (.k (.c (.bool false))), none⟩]) .ret) .skip)
def calc_Up.c16 : DCode := (.seq (.seq (.region [⟨0, some 11, .move (.t 4), none⟩,
    ⟨1, some 12, .move (.t 0), none⟩,
    ⟨2, some 13, .cmp .lss .i64 (.t 11) (.t 12), none⟩]) (.cond (.t 13) .skip (.exit 0))) (.block 1 (.region [⟨0, some 14, .move (.t 4), none⟩,
    ⟨1, some 15, .bin .shl .i64 (.t 14) (.k (.c (.int .u64 1))), none⟩,
    ⟨2, some 4, .move (.t 15), none⟩])))
def calc_Up.c21 : DCode := (.seq (.region [⟨0, some 16, .move (.t 4), none⟩,
    ⟨1, some 2, .move (.t 16), none⟩,
    ⟨2, some 3, .move (.k (.c (.bool true))), none⟩]) .ret)
def calc_Up.c23 : DCode := (.seq (.region [⟨0, some 4, .move (.k (.c (.int .i64 1))), none⟩]) (.seq (.block 0 (.loop [0, 4] calc_Up.c16)) calc_Up.c21))
def calc_Up.d : DFn := { ntmps := 17, res := [.t 2, .t 3], body := (.seq (.region [⟨0, some 2, .move (.k (.c (.int .i64 0))), none⟩,
    ⟨1, some 3, .move (.k (.c (.bool false))), none⟩]) (.seq (.seq (.region [⟨0, some 5, .move (.t 0), none⟩,
    ⟨1, some 6, .cmp .lss .i64 (.t 5) (.k (.c (.int .i64 1))), none⟩,
    ⟨2, some 7, .move (.t 6), none⟩,
    ⟨3, some 8, .move (.t 0), some (7, false)⟩,
    ⟨4, some 9, .cmp .gtr .i64 (.t 8) (.k (.c (.int .i64 4611686018427387904))), some (7, false)⟩,
    ⟨5, some 10, .pick (.t 7) (.k (.c (.bool true))) (.t 9), none⟩]) (.cut [0, 10] calc_Up.c6)) calc_Up.c23)) }
def calc_Up.k23 (M : Mach) (C : Call) : Kont := execC M.j C (M.ag C) calc_Up.c23 ({ exits := [], ret := retK calc_Up.d } : Env) (retK calc_Up.d)
def calc_Up.J6 (M : Mach) (C : Call) (v0 : Int) (t10 : Bool) (G : GH) : Option Res := M.j (execC M.j C (M.ag C) calc_Up.c6 ({ exits := [], ret := retK calc_Up.d } : Env) (calc_Up.k23 M C)) [.v (.c (.int .i64 v0)), .und, .und, .und, .und, .und, .und, .und, .und, .und, .v (.c (.bool t10)), .und, .und, .und, .und, .und, .und] G
def calc_Up.k21 (M : Mach) (C : Call) : Kont := execC M.j C (M.ag C) calc_Up.c21 ({ exits := [], ret := retK calc_Up.d } : Env) (retK calc_Up.d)
def calc_Up.e18 (M : Mach) (C : Call) : Env := { exits := (0, (calc_Up.k21 M C)) :: (({ exits := [], ret := retK calc_Up.d } : Env)).exits, ret := (({ exits := [], ret := retK calc_Up.d } : Env)).ret }
def calc_Up.L17 (M : Mach) (C : Call) (v0 : Int) (p4 : Int) (G : GH) : Option Res := M.ag C [0, 4] calc_Up.c16 (calc_Up.e18 M C) (calc_Up.k21 M C) [.v (.c (.int .i64 v0)), .und, .und, .und, .v (.c (.int .i64 p4)), .und, .und, .und, .und, .und, .und, .und, .und, .und, .und, .und, .und] G
theorem calc_Up.J6_eq (M : Mach) (C : Call) (v0 : Int) (t10 : Bool) (G : GH) : calc_Up.J6 M C v0 t10 G = (bif t10 then some ([.c (.int .i64 0), .c (.bool false)], G) else calc_Up.L17 M C v0 1 G) := (M.hj _ _ _).trans (by kernel_rfl)
theorem calc_Up.L17_eq (M : Mach) (C : Call) (v0 : Int) (p4 : Int) (G : GH) : calc_Up.L17 M C v0 p4 G = (bif decide (p4 < v0) then calc_Up.L17 M C v0 (IntKind.i64.wrap (p4 * 2 ^ (min (1 : Int).toNat IntKind.i64.bits))) G else some ([.c (.int .i64 p4), .c (.bool true)], G)) := (M.hs _ _ _ _ _ _ _).trans (by kernel_rfl)
def calc_Up.f (M : Mach) (C : Call) (v0 : Int) (G : GH) : Option Res := bif decide (v0 < 1) then calc_Up.J6 M C v0 true G else calc_Up.J6 M C v0 (decide (v0 > 4611686018427387904)) G
theorem calc_Up.eq (M : Mach) (C : Call) (v0 : Int) (G : GH) : runF M C calc_Up.d [.c (.int .i64 v0)] G = calc_Up.f M C v0 G := by kernel_rfl

/- 33 hodman/admit.Many -/
def admit_Many.d : DFn := { ntmps := 29, res := [.t 8, .t 9], body := (.seq (.region [⟨0, some 4, .boxv 28 [] (.t 0) 8, none⟩,
    ⟨1, some 8, .move (.k (.c (.int .i64 0))), none⟩,
    ⟨2, some 9, .move (.k (.c (.int .i64 0))), none⟩]) (.seq (.region [⟨0, some 13, .ldL 4 28 (.agg [.int .i64, .int .i64, .int .i64, .int .i64, .int .i64, .int .i64, .int .i64, .int .i64]), none⟩,
    ⟨1, some 14, .move (.t 2), none⟩,
    ⟨2, some 15, .move (.t 3), none⟩,
    ⟨3, some 16, .call 19 [.t 13, .t 14, .t 15] [.c (.int .i64), .c (.int .i64)], none⟩,
    ⟨4, some 12, .move (.t 16), none⟩,
    ⟨5, some 17, .ext 12 0, none⟩,
    ⟨6, some 18, .ext 12 1, none⟩,
    ⟨7, some 10, .move (.t 17), none⟩,
    ⟨8, some 11, .move (.t 18), none⟩]) (.seq (.seq (.region [⟨0, some 19, .move (.t 11), none⟩,
    ⟨1, some 20, .cmp .neq .i64 (.t 19) (.k (.c (.int .i64 0))), none⟩]) (.cond (.t 20) (.seq (.region [⟨0, some 21, .move (.t 11), none⟩,
    ⟨1, some 8, .move (.k (.c (.int .i64 0))), none⟩,
    ⟨2, some 9, .move (.t 21), none⟩]) .ret) .skip)) (.seq (.region [⟨0, some 22, .ldL 4 28 (.agg [.int .i64, .int .i64, .int .i64, .int .i64, .int .i64, .int .i64, .int .i64, .int .i64]), none⟩,
    ⟨1, some 23, .move (.t 1), none⟩,
    ⟨2, some 24, .move (.t 10), none⟩,
    ⟨3, some 25, .call 31 [.t 22, .t 23, .t 24, .k (.c (.int .i64 1))] [.c (.int .i64), .c (.int .i64)], none⟩,
    ⟨4, some 26, .ext 25 0, none⟩,
    ⟨5, some 27, .ext 25 1, none⟩,
    ⟨6, some 8, .move (.t 26), none⟩,
    ⟨7, some 9, .move (.t 27), none⟩]) .ret)))) }
def admit_Many.f (M : Mach) (C : Call) (c0_0 : Int) (c0_1 : Int) (c0_2 : Int) (c0_3 : Int) (c0_4 : Int) (c0_5 : Int) (c0_6 : Int) (c0_7 : Int) (live1 : Int) (n2 : Int) (s3 : Int) (G : GH) : Option Res := (C class_Product.id [.agg [.int .i64 c0_0, .int .i64 c0_1, .int .i64 c0_2, .int .i64 c0_3, .int .i64 c0_4, .int .i64 c0_5, .int .i64 c0_6, .int .i64 c0_7], .c (.int .i64 n2), .c (.int .i64 s3)] G).bind fun qr_1 => (((qr_1.1[0]?).bind V1.c?).bind (Cell.asI .i64)).bind fun qx_2 => (((qr_1.1[1]?).bind V1.c?).bind (Cell.asI .i64)).bind fun qx_3 => bif (!decide (qx_3 = 0)) then some ([.c (.int .i64 0), .c (.int .i64 qx_3)], qr_1.2) else (C admit_New.id [.agg [.int .i64 c0_0, .int .i64 c0_1, .int .i64 c0_2, .int .i64 c0_3, .int .i64 c0_4, .int .i64 c0_5, .int .i64 c0_6, .int .i64 c0_7], .c (.int .i64 live1), .c (.int .i64 qx_2), .c (.int .i64 1)] qr_1.2).bind fun qr_4 => (((qr_4.1[0]?).bind V1.c?).bind (Cell.asI .i64)).bind fun qx_5 => (((qr_4.1[1]?).bind V1.c?).bind (Cell.asI .i64)).bind fun qx_6 => some ([.c (.int .i64 qx_5), .c (.int .i64 qx_6)], qr_4.2)
theorem admit_Many.eq (M : Mach) (C : Call) (c0_0 : Int) (c0_1 : Int) (c0_2 : Int) (c0_3 : Int) (c0_4 : Int) (c0_5 : Int) (c0_6 : Int) (c0_7 : Int) (live1 : Int) (n2 : Int) (s3 : Int) (G : GH) : runF M C admit_Many.d [.agg [.int .i64 c0_0, .int .i64 c0_1, .int .i64 c0_2, .int .i64 c0_3, .int .i64 c0_4, .int .i64 c0_5, .int .i64 c0_6, .int .i64 c0_7], .c (.int .i64 live1), .c (.int .i64 n2), .c (.int .i64 s3)] G = admit_Many.f M C c0_0 c0_1 c0_2 c0_3 c0_4 c0_5 c0_6 c0_7 live1 n2 s3 G := by kernel_rfl

/- 48 hodman/calc.Add -/
def calc_Add.d : DFn := { ntmps := 22, res := [.t 4, .t 5], body := (.seq (.region [⟨0, some 4, .move (.k (.c (.int .i64 0))), none⟩,
    ⟨1, some 5, .move (.k (.c (.bool false))), none⟩]) (.seq (.region [⟨0, some 7, .move (.t 0), none⟩,
    ⟨1, some 8, .conv .u64 (.t 7), none⟩,
    ⟨2, some 9, .move (.t 1), none⟩,
    ⟨3, some 10, .conv .u64 (.t 9), none⟩,
    ⟨4, some 11, .bin .add .u64 (.t 8) (.t 10), none⟩,
    ⟨5, some 12, .conv .i64 (.t 11), none⟩,
    ⟨6, some 6, .move (.t 12), none⟩]) (.seq (.seq (.region [⟨0, some 13, .move (.t 0), none⟩,
    ⟨1, some 14, .move (.t 6), none⟩,
    ⟨2, some 15, .bin .xor .i64 (.t 13) (.t 14), none⟩,
    ⟨3, some 16, .move (.t 1), none⟩,
    ⟨4, some 17, .move (.t 6), none⟩,
    ⟨5, some 18, .bin .xor .i64 (.t 16) (.t 17), none⟩,
    ⟨6, some 19, .bin .and .i64 (.t 15) (.t 18), none⟩,
    ⟨7, some 20, .cmp .lss .i64 (.t 19) (.k (.c (.int .i64 0))), none⟩]) (.cond (.t 20) (.seq (.region [⟨0, some 4, .move (.k (.c (.int .i64 0))), none⟩,
    ⟨1, some 5, .move (.k (.c (.bool false))), none⟩]) .ret) .skip)) (.seq (.region [⟨0, some 21, .move (.t 6), none⟩,
    ⟨1, some 4, .move (.t 21), none⟩,
    ⟨2, some 5, .move (.k (.c (.bool true))), none⟩]) .ret)))) }
def calc_Add.f (M : Mach) (C : Call) (a0 : Int) (b1 : Int) (G : GH) : Option Res := bif decide (IntKind.i64.wrap (((BitVec.ofInt IntKind.i64.bits (IntKind.i64.wrap (((BitVec.ofInt IntKind.i64.bits a0) ^^^ (BitVec.ofInt IntKind.i64.bits (IntKind.i64.wrap (IntKind.u64.wrap ((IntKind.u64.wrap a0) + (IntKind.u64.wrap b1)))))).toNat : Int))) &&& (BitVec.ofInt IntKind.i64.bits (IntKind.i64.wrap (((BitVec.ofInt IntKind.i64.bits b1) ^^^ (BitVec.ofInt IntKind.i64.bits (IntKind.i64.wrap (IntKind.u64.wrap ((IntKind.u64.wrap a0) + (IntKind.u64.wrap b1)))))).toNat : Int)))).toNat : Int) < 0) then some ([.c (.int .i64 0), .c (.bool false)], G) else some ([.c (.int .i64 (IntKind.i64.wrap (IntKind.u64.wrap ((IntKind.u64.wrap a0) + (IntKind.u64.wrap b1))))), .c (.bool true)], G)
theorem calc_Add.eq (M : Mach) (C : Call) (a0 : Int) (b1 : Int) (G : GH) : runF M C calc_Add.d [.c (.int .i64 a0), .c (.int .i64 b1)] G = calc_Add.f M C a0 b1 G := by kernel_rfl

/- 35 hodman/admit.Anew -/
def admit_Anew.d : DFn := { ntmps := 19, res := [.t 8, .t 9], body := (.seq (.region [⟨0, some 4, .boxv 18 [] (.t 0) 8, none⟩,
    ⟨1, some 8, .move (.k (.c (.int .i64 0))), none⟩,
    ⟨2, some 9, .move (.k (.c (.int .i64 0))), none⟩]) (.seq (.region [⟨0, some 10, .ldL 4 18 (.agg [.int .i64, .int .i64, .int .i64, .int .i64, .int .i64, .int .i64, .int .i64, .int .i64]), none⟩,
    ⟨1, some 11, .move (.t 1), none⟩,
    ⟨2, some 12, .move (.t 2), none⟩,
    ⟨3, some 13, .bin .sub .i64 (.t 11) (.t 12), none⟩,
    ⟨4, some 14, .move (.t 3), none⟩,
    ⟨5, some 15, .call 31 [.t 10, .t 13, .t 14, .k (.c (.int .i64 1))] [.c (.int .i64), .c (.int .i64)], none⟩,
    ⟨6, some 16, .ext 15 0, none⟩,
    ⟨7, some 17, .ext 15 1, none⟩,
    ⟨8, some 8, .move (.t 16), none⟩,
    ⟨9, some 9, .move (.t 17), none⟩]) .ret)) }
def admit_Anew.f (M : Mach) (C : Call) (c0_0 : Int) (c0_1 : Int) (c0_2 : Int) (c0_3 : Int) (c0_4 : Int) (c0_5 : Int) (c0_6 : Int) (c0_7 : Int) (live1 : Int) (old2 : Int) (s3 : Int) (G : GH) : Option Res := (C admit_New.id [.agg [.int .i64 c0_0, .int .i64 c0_1, .int .i64 c0_2, .int .i64 c0_3, .int .i64 c0_4, .int .i64 c0_5, .int .i64 c0_6, .int .i64 c0_7], .c (.int .i64 (IntKind.i64.wrap (live1 - old2))), .c (.int .i64 s3), .c (.int .i64 1)] G).bind fun qr_1 => (((qr_1.1[0]?).bind V1.c?).bind (Cell.asI .i64)).bind fun qx_2 => (((qr_1.1[1]?).bind V1.c?).bind (Cell.asI .i64)).bind fun qx_3 => some ([.c (.int .i64 qx_2), .c (.int .i64 qx_3)], qr_1.2)
theorem admit_Anew.eq (M : Mach) (C : Call) (c0_0 : Int) (c0_1 : Int) (c0_2 : Int) (c0_3 : Int) (c0_4 : Int) (c0_5 : Int) (c0_6 : Int) (c0_7 : Int) (live1 : Int) (old2 : Int) (s3 : Int) (G : GH) : runF M C admit_Anew.d [.agg [.int .i64 c0_0, .int .i64 c0_1, .int .i64 c0_2, .int .i64 c0_3, .int .i64 c0_4, .int .i64 c0_5, .int .i64 c0_6, .int .i64 c0_7], .c (.int .i64 live1), .c (.int .i64 old2), .c (.int .i64 s3)] G = admit_Anew.f M C c0_0 c0_1 c0_2 c0_3 c0_4 c0_5 c0_6 c0_7 live1 old2 s3 G := by kernel_rfl

/- 15 hodman/hodmanplay.Made -/
def hodmanplay_Made.d : DFn := { ntmps := 6, res := [.t 2], body := (.seq (.region [⟨0, some 2, .move (.k (.c (.ptr 0 0))), none⟩]) (.seq (.region [⟨0, some 3, .move (.t 0), none⟩,
    ⟨1, some 4, .build [.sl 1 0 0 0, .int .i64 0] [(0, 1, .t 3)], none⟩,
    ⟨2, some 5, .newv (.t 4) 2, none⟩,
    ⟨3, some 2, .move (.t 5), none⟩]) .ret)) }
def hodmanplay_Made.f (M : Mach) (C : Call) (l0i : Nat) (l0o : Nat) (l0n : Nat) (G : GH) : Option Res := let qG_1 := G.alloc (.row [.sl 1 l0i l0o l0n, .int .i64 0] false); some ([.c (.ptr G.next 0)], qG_1)
theorem hodmanplay_Made.eq (M : Mach) (C : Call) (l0i : Nat) (l0o : Nat) (l0n : Nat) (G : GH) : runF M C hodmanplay_Made.d [.c (.sl 1 l0i l0o l0n)] G = hodmanplay_Made.f M C l0i l0o l0n G := by kernel_rfl
end Go.Proofs.D
