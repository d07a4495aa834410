/- Texts of the proof (T0); no condition. -/
import Derived.Test.YtefhfajcpefeeaaConfWholea
import Derived.KernelRfl
set_option linter.unusedSimpArgs false
set_option linter.unusedVariables false
set_option linter.unusedVariables false
set_option maxRecDepth 100000
namespace Go.Proofs.D
open Go
/- 8 hodman/hodmanlaw2.ConfWhole -/
def hodmanlaw2_ConfWhole.c21 : DCode := (.cond (.t 145) (.seq (.region [⟨0, some 2, .move (.k (.c (.bool false))), none⟩]) .ret) .skip)
def hodmanlaw2_ConfWhole.c35 : DCode := (.cond (.t 178) (.seq (.region [⟨0, some 2, .move (.k (.c (.bool false))), none⟩]) .ret) .skip)
def hodmanlaw2_ConfWhole.c43 : DCode := (.cond (.t 194) (.seq (.region [⟨0, some 2, .move (.k (.c (.bool false))), none⟩]) .ret) .skip)
def hodmanlaw2_ConfWhole.c45 : DCode := (.seq (.region [⟨0, some 180, .ldL 3 208 (.agg [.int .i64, .int .i64, .int .i64, .int .i64, .int .i64, .int .i64, .int .i64, .int .i64]), none⟩,
    ⟨1, some 181, .faddr 3 0, none⟩,
    ⟨2, some 182, .ldL 181 208 (.c (.int .i64)), none⟩,
    ⟨3, some 183, .move (.t 5), none⟩,
    ⟨4, some 184, .bin .shl .i64 (.t 182) (.t 183), none⟩,
    ⟨5, some 185, .call 27 [.t 180, .t 184] [.c (.int .i64), .c (.bool)], none⟩,
    ⟨6, some 179, .move (.t 185), none⟩,
    ⟨7, some 186, .ext 179 0, none⟩,
    ⟨8, some 187, .ext 179 1, none⟩,
    ⟨9, some 7, .move (.t 186), none⟩,
    ⟨10, some 8, .move (.t 187), none⟩]) (.seq (.region [⟨0, some 188, .move (.t 8), none⟩,
    ⟨1, some 189, .not (.t 188), none⟩,
    ⟨2, some 190, .move (.t 189), none⟩,
    ⟨3, some 191, .move (.t 7), some (190, false)⟩,
    ⟨4, some 192, .move (.t 5), some (190, false)⟩,
    ⟨5, some 193, .cmp .neq .i64 (.t 191) (.t 192), some (190, false)⟩,
    ⟨6, some 194, .pick (.t 190) (.k (.c (.bool true))) (.t 193), none⟩]) (.cut [3, 5, 194, 208] hodmanlaw2_ConfWhole.c43)))
def hodmanlaw2_ConfWhole.c49 : DCode := (.region [⟨0, some 150, .move (.t 5), none⟩,
    ⟨1, some 151, .bin .add .i64 (.t 150) (.k (.c (.int .i64 1))), none⟩,
    ⟨2, some 5, .move (.t 151), none⟩])
def hodmanlaw2_ConfWhole.c51 : DCode := (.seq (.seq (.region [⟨0, some 146, .move (.t 5), none⟩,
    ⟨1, some 147, .faddr 3 3, none⟩,
    ⟨2, some 148, .ldL 147 208 (.c (.int .i64)), none⟩,
    ⟨3, some 149, .cmp .leq .i64 (.t 146) (.t 148), none⟩]) (.cond (.t 149) .skip (.exit 0))) (.seq (.block 1 (.seq (.region [⟨0, some 152, .ldL 3 208 (.agg [.int .i64, .int .i64, .int .i64, .int .i64, .int .i64, .int .i64, .int .i64, .int .i64]), none⟩,
    ⟨1, some 153, .move (.t 5), none⟩,
    ⟨2, some 154, .call 28 [.t 152, .t 153] [.c (.int .i64)], none⟩,
    ⟨3, some 6, .move (.t 154), none⟩]) (.seq (.seq (.region [⟨0, some 155, .move (.t 6), none⟩,
    ⟨1, some 156, .faddr 3 4, none⟩,
    ⟨2, some 157, .ldL 156 208 (.c (.int .i64)), none⟩,
    ⟨3, some 158, .bin .rem .i64 (.t 155) (.t 157), none⟩,
    ⟨4, some 159, .cmp .neq .i64 (.t 158) (.k (.c (.int .i64 0))), none⟩,
    ⟨5, some 160, .move (.t 159), none⟩,
    ⟨6, some 161, .move (.t 6), some (160, false)⟩,
    ⟨7, some 162, .faddr 3 1, some (160, false)⟩,
    ⟨8, some 163, .ldL 162 208 (.c (.int .i64)), some (160, false)⟩,
    ⟨9, some 164, .bin .rem .i64 (.t 161) (.t 163), some (160, false)⟩,
    ⟨10, some 165, .cmp .neq .i64 (.t 164) (.k (.c (.int .i64 0))), some (160, false)⟩,
    ⟨11, some 166, .pick (.t 160) (.k (.c (.bool true))) (.t 165), none⟩,
    ⟨12, some 167, .move (.t 166), none⟩,
    ⟨13, some 168, .move (.t 6), some (167, false)⟩,
    ⟨14, some 169, .faddr 3 2, some (167, false)⟩,
    ⟨15, some 170, .ldL 169 208 (.c (.int .i64)), some (167, false)⟩,
    ⟨16, some 171, .bin .sub .i64 (.t 168) (.t 170), some (167, false)⟩,
    ⟨17, some 172, .bin .mul .i64 (.k (.c (.int .i64 2))) (.t 171), some (167, false)⟩,
    ⟨18, some 173, .move (.t 5), some (167, false)⟩,
    ⟨19, some 174, .faddr 3 2, some (167, false)⟩,
    ⟨20, some 175, .ldL 174 208 (.c (.int .i64)), some (167, false)⟩,
    ⟨21, some 176, .bin .mul .i64 (.t 173) (.t 175), some (167, false)⟩,
    ⟨22, some 177, .cmp .neq .i64 (.t 172) (.t 176), some (167, false)⟩,
    ⟨23, some 178, .pick (.t 167) (.k (.c (.bool true))) (.t 177), none⟩]) (.cut [3, 5, 178, 208] hodmanlaw2_ConfWhole.c35)) hodmanlaw2_ConfWhole.c45))) hodmanlaw2_ConfWhole.c49))
def hodmanlaw2_ConfWhole.c52 : DCode := (.loop [3, 5, 208] hodmanlaw2_ConfWhole.c51)
def hodmanlaw2_ConfWhole.c57 : DCode := (.seq (.region [⟨0, some 195, .ldL 3 208 (.agg [.int .i64, .int .i64, .int .i64, .int .i64, .int .i64, .int .i64, .int .i64, .int .i64]), none⟩,
    ⟨1, some 196, .faddr 3 3, none⟩,
    ⟨2, some 197, .ldL 196 208 (.c (.int .i64)), none⟩,
    ⟨3, some 198, .call 28 [.t 195, .t 197] [.c (.int .i64)], none⟩,
    ⟨4, some 199, .faddr 3 6, none⟩,
    ⟨5, some 200, .ldL 199 208 (.c (.int .i64)), none⟩,
    ⟨6, some 201, .cmp .eql .i64 (.t 198) (.t 200), none⟩,
    ⟨7, some 202, .move (.t 201), none⟩,
    ⟨8, some 203, .faddr 3 6, some (202, true)⟩,
    ⟨9, some 204, .ldL 203 208 (.c (.int .i64)), some (202, true)⟩,
    ⟨10, some 205, .cmp .leq .i64 (.t 204) (.k (.c (.int .i64 65536))), some (202, true)⟩,
    ⟨11, some 206, .pick (.t 202) (.t 205) (.k (.c (.bool false))), none⟩,
    ⟨12, some 2, .move (.t 206), none⟩]) .ret)
def hodmanlaw2_ConfWhole.c58 : DCode := (.seq (.seq (.region [⟨0, some 5, .move (.k (.c (.int .i64 0))), none⟩]) (.block 0 hodmanlaw2_ConfWhole.c52)) hodmanlaw2_ConfWhole.c57)
def hodmanlaw2_ConfWhole.d : DFn := { ntmps := 209, res := [.t 2], body := (.seq (.region [⟨0, some 1, .boxv 207 [27, 33, 54, 61, 68, 76, 87, 98] (.t 0) 6, none⟩,
    ⟨1, some 2, .move (.k (.c (.bool false))), none⟩]) (.seq (.seq (.region [⟨0, some 9, .call 24 [] [.c (.bool)], none⟩,
    ⟨1, some 10, .not (.t 9), none⟩]) (.cond (.t 10) (.seq (.region [⟨0, some 2, .move (.k (.c (.bool false))), none⟩]) .ret) .skip)) (.seq (.region [⟨0, some 12, .ldL 1 207 (.agg [.int .i64, .int .i64, .int .i64, .int .i64, .int .i64, .int .i64]), none⟩,
    ⟨1, some 13, .call 26 [.t 12] [.agg [.int .i64, .int .i64, .int .i64, .int .i64, .int .i64, .int .i64, .int .i64, .int .i64], .c (.int .i64)], none⟩,
    ⟨2, some 11, .move (.t 13), none⟩,
    ⟨3, some 14, .ext 11 0, none⟩,
    ⟨4, some 15, .ext 11 1, none⟩,
    ⟨5, some 3, .boxz 208 [25, 31, 38, 40, 45, 47, 52, 59, 66, 74, 78, 85, 89, 96, 101, 103, 110, 112, 119, 121, 128, 130, 137, 139, 142, 147, 156, 162, 169, 174, 181, 196, 199, 203] [.int .i64 0, .int .i64 0, .int .i64 0, .int .i64 0, .int .i64 0, .int .i64 0, .int .i64 0, .int .i64 0], none⟩,
    ⟨6, none, .stL 3 208 (.t 14) 8, none⟩,
    ⟨7, some 4, .move (.t 15), none⟩]) (.seq (.seq (.region [⟨0, some 16, .move (.t 4), none⟩,
    ⟨1, some 17, .cmp .neq .i64 (.t 16) (.k (.c (.int .i64 0))), none⟩]) (.cond (.t 17) (.seq (.region [⟨0, some 18, .move (.t 4), none⟩,
    ⟨1, some 19, .cmp .eql .i64 (.t 18) (.k (.c (.int .i64 1))), none⟩,
    ⟨2, some 20, .move (.t 19), none⟩,
    ⟨3, some 21, .ldL 3 208 (.agg [.int .i64, .int .i64, .int .i64, .int .i64, .int .i64, .int .i64, .int .i64, .int .i64]), some (20, true)⟩,
    ⟨4, some 22, .build [.int .i64 0, .int .i64 0, .int .i64 0, .int .i64 0, .int .i64 0, .int .i64 0, .int .i64 0, .int .i64 0] [], some (20, true)⟩,
    ⟨5, some 23, .aeq false [.int .i64, .int .i64, .int .i64, .int .i64, .int .i64, .int .i64, .int .i64, .int .i64] (.t 21) (.t 22), some (20, true)⟩,
    ⟨6, some 24, .pick (.t 20) (.t 23) (.k (.c (.bool false))), none⟩,
    ⟨7, some 2, .move (.t 24), none⟩]) .ret) .skip)) (.seq (.seq (.region [⟨0, some 25, .faddr 3 0, none⟩,
    ⟨1, some 26, .ldL 25 208 (.c (.int .i64)), none⟩,
    ⟨2, some 27, .faddr 1 0, none⟩,
    ⟨3, some 28, .ldL 27 207 (.c (.int .i64)), none⟩,
    ⟨4, some 29, .cmp .lss .i64 (.t 26) (.t 28), none⟩,
    ⟨5, some 30, .move (.t 29), none⟩,
    ⟨6, some 31, .faddr 3 1, some (30, false)⟩,
    ⟨7, some 32, .ldL 31 208 (.c (.int .i64)), some (30, false)⟩,
    ⟨8, some 33, .faddr 1 1, some (30, false)⟩,
    ⟨9, some 34, .ldL 33 207 (.c (.int .i64)), some (30, false)⟩,
    ⟨10, some 35, .cmp .lss .i64 (.t 32) (.t 34), some (30, false)⟩,
    ⟨11, some 36, .pick (.t 30) (.k (.c (.bool true))) (.t 35), none⟩,
    ⟨12, some 37, .move (.t 36), none⟩,
    ⟨13, some 38, .faddr 3 1, some (37, false)⟩,
    ⟨14, some 39, .ldL 38 208 (.c (.int .i64)), some (37, false)⟩,
    ⟨15, some 40, .faddr 3 0, some (37, false)⟩,
    ⟨16, some 41, .ldL 40 208 (.c (.int .i64)), some (37, false)⟩,
    ⟨17, some 42, .cmp .lss .i64 (.t 39) (.t 41), some (37, false)⟩,
    ⟨18, some 43, .pick (.t 37) (.k (.c (.bool true))) (.t 42), none⟩,
    ⟨19, some 44, .move (.t 43), none⟩,
    ⟨20, some 45, .faddr 3 4, some (44, false)⟩,
    ⟨21, some 46, .ldL 45 208 (.c (.int .i64)), some (44, false)⟩,
    ⟨22, some 47, .faddr 3 0, some (44, false)⟩,
    ⟨23, some 48, .ldL 47 208 (.c (.int .i64)), some (44, false)⟩,
    ⟨24, some 49, .cmp .lss .i64 (.t 46) (.t 48), some (44, false)⟩,
    ⟨25, some 50, .pick (.t 44) (.k (.c (.bool true))) (.t 49), none⟩,
    ⟨26, some 51, .move (.t 50), none⟩,
    ⟨27, some 52, .faddr 3 4, some (51, false)⟩,
    ⟨28, some 53, .ldL 52 208 (.c (.int .i64)), some (51, false)⟩,
    ⟨29, some 54, .faddr 1 3, some (51, false)⟩,
    ⟨30, some 55, .ldL 54 207 (.c (.int .i64)), some (51, false)⟩,
    ⟨31, some 56, .cmp .lss .i64 (.t 53) (.t 55), some (51, false)⟩,
    ⟨32, some 57, .pick (.t 51) (.k (.c (.bool true))) (.t 56), none⟩,
    ⟨33, some 58, .move (.t 57), none⟩,
    ⟨34, some 59, .faddr 3 2, some (58, false)⟩,
    ⟨35, some 60, .ldL 59 208 (.c (.int .i64)), some (58, false)⟩,
    ⟨36, some 61, .faddr 1 2, some (58, false)⟩,
    ⟨37, some 62, .ldL 61 207 (.c (.int .i64)), some (58, false)⟩,
    ⟨38, some 63, .cmp .lss .i64 (.t 60) (.t 62), some (58, false)⟩,
    ⟨39, some 64, .pick (.t 58) (.k (.c (.bool true))) (.t 63), none⟩,
    ⟨40, some 65, .move (.t 64), none⟩,
    ⟨41, some 66, .faddr 3 0, some (65, false)⟩,
    ⟨42, some 67, .ldL 66 208 (.c (.int .i64)), some (65, false)⟩,
    ⟨43, some 68, .faddr 1 0, some (65, false)⟩,
    ⟨44, some 69, .ldL 68 207 (.c (.int .i64)), some (65, false)⟩,
    ⟨45, some 70, .bin .mul .i64 (.k (.c (.int .i64 2))) (.t 69), some (65, false)⟩,
    ⟨46, some 71, .cmp .geq .i64 (.t 67) (.t 70), some (65, false)⟩,
    ⟨47, some 72, .pick (.t 65) (.k (.c (.bool true))) (.t 71), none⟩,
    ⟨48, some 73, .move (.t 72), none⟩,
    ⟨49, some 74, .faddr 3 1, some (73, false)⟩,
    ⟨50, some 75, .ldL 74 208 (.c (.int .i64)), some (73, false)⟩,
    ⟨51, some 76, .faddr 1 1, some (73, false)⟩,
    ⟨52, some 77, .ldL 76 207 (.c (.int .i64)), some (73, false)⟩,
    ⟨53, some 78, .faddr 3 0, some (73, false)⟩,
    ⟨54, some 79, .ldL 78 208 (.c (.int .i64)), some (73, false)⟩,
    ⟨55, some 80, .mx (.t 77) [.t 79], some (73, false)⟩,
    ⟨56, some 81, .bin .mul .i64 (.k (.c (.int .i64 2))) (.t 80), some (73, false)⟩,
    ⟨57, some 82, .cmp .geq .i64 (.t 75) (.t 81), some (73, false)⟩,
    ⟨58, some 83, .pick (.t 73) (.k (.c (.bool true))) (.t 82), none⟩,
    ⟨59, some 84, .move (.t 83), none⟩,
    ⟨60, some 85, .faddr 3 4, some (84, false)⟩,
    ⟨61, some 86, .ldL 85 208 (.c (.int .i64)), some (84, false)⟩,
    ⟨62, some 87, .faddr 1 3, some (84, false)⟩,
    ⟨63, some 88, .ldL 87 207 (.c (.int .i64)), some (84, false)⟩,
    ⟨64, some 89, .faddr 3 0, some (84, false)⟩,
    ⟨65, some 90, .ldL 89 208 (.c (.int .i64)), some (84, false)⟩,
    ⟨66, some 91, .mx (.t 88) [.t 90], some (84, false)⟩,
    ⟨67, some 92, .bin .mul .i64 (.k (.c (.int .i64 2))) (.t 91), some (84, false)⟩,
    ⟨68, some 93, .cmp .geq .i64 (.t 86) (.t 92), some (84, false)⟩,
    ⟨69, some 94, .pick (.t 84) (.k (.c (.bool true))) (.t 93), none⟩,
    ⟨70, some 95, .move (.t 94), none⟩,
    ⟨71, some 96, .faddr 3 2, some (95, false)⟩,
    ⟨72, some 97, .ldL 96 208 (.c (.int .i64)), some (95, false)⟩,
    ⟨73, some 98, .faddr 1 2, some (95, false)⟩,
    ⟨74, some 99, .ldL 98 207 (.c (.int .i64)), some (95, false)⟩,
    ⟨75, some 100, .bin .sub .i64 (.t 97) (.t 99), some (95, false)⟩,
    ⟨76, some 101, .faddr 3 1, some (95, false)⟩,
    ⟨77, some 102, .ldL 101 208 (.c (.int .i64)), some (95, false)⟩,
    ⟨78, some 103, .faddr 3 4, some (95, false)⟩,
    ⟨79, some 104, .ldL 103 208 (.c (.int .i64)), some (95, false)⟩,
    ⟨80, some 105, .mx (.t 102) [.t 104], some (95, false)⟩,
    ⟨81, some 106, .bin .mul .i64 (.k (.c (.int .i64 2))) (.t 105), some (95, false)⟩,
    ⟨82, some 107, .cmp .geq .i64 (.t 100) (.t 106), some (95, false)⟩,
    ⟨83, some 108, .pick (.t 95) (.k (.c (.bool true))) (.t 107), none⟩,
    ⟨84, some 109, .move (.t 108), none⟩,
    ⟨85, some 110, .faddr 3 0, some (109, false)⟩,
    ⟨86, some 111, .ldL 110 208 (.c (.int .i64)), some (109, false)⟩,
    ⟨87, some 112, .faddr 3 0, some (109, false)⟩,
    ⟨88, some 113, .ldL 112 208 (.c (.int .i64)), some (109, false)⟩,
    ⟨89, some 114, .bin .sub .i64 (.t 113) (.k (.c (.int .i64 1))), some (109, false)⟩,
    ⟨90, some 115, .bin .and .i64 (.t 111) (.t 114), some (109, false)⟩,
    ⟨91, some 116, .cmp .neq .i64 (.t 115) (.k (.c (.int .i64 0))), some (109, false)⟩,
    ⟨92, some 117, .pick (.t 109) (.k (.c (.bool true))) (.t 116), none⟩,
    ⟨93, some 118, .move (.t 117), none⟩,
    ⟨94, some 119, .faddr 3 1, some (118, false)⟩,
    ⟨95, some 120, .ldL 119 208 (.c (.int .i64)), some (118, false)⟩,
    ⟨96, some 121, .faddr 3 1, some (118, false)⟩,
    ⟨97, some 122, .ldL 121 208 (.c (.int .i64)), some (118, false)⟩,
    ⟨98, some 123, .bin .sub .i64 (.t 122) (.k (.c (.int .i64 1))), some (118, false)⟩,
    ⟨99, some 124, .bin .and .i64 (.t 120) (.t 123), some (118, false)⟩,
    ⟨100, some 125, .cmp .neq .i64 (.t 124) (.k (.c (.int .i64 0))), some (118, false)⟩,
    ⟨101, some 126, .pick (.t 118) (.k (.c (.bool true))) (.t 125), none⟩,
    ⟨102, some 127, .move (.t 126), none⟩,
    ⟨103, some 128, .faddr 3 4, some (127, false)⟩,
    ⟨104, some 129, .ldL 128 208 (.c (.int .i64)), some (127, false)⟩,
    ⟨105, some 130, .faddr 3 4, some (127, false)⟩,
    ⟨106, some 131, .ldL 130 208 (.c (.int .i64)), some (127, false)⟩,
    ⟨107, some 132, .bin .sub .i64 (.t 131) (.k (.c (.int .i64 1))), some (127, false)⟩,
    ⟨108, some 133, .bin .and .i64 (.t 129) (.t 132), some (127, false)⟩,
    ⟨109, some 134, .cmp .neq .i64 (.t 133) (.k (.c (.int .i64 0))), some (127, false)⟩,
    ⟨110, some 135, .pick (.t 127) (.k (.c (.bool true))) (.t 134), none⟩,
    ⟨111, some 136, .move (.t 135), none⟩,
    ⟨112, some 137, .faddr 3 0, some (136, false)⟩,
    ⟨113, some 138, .ldL 137 208 (.c (.int .i64)), some (136, false)⟩,
    ⟨114, some 139, .faddr 3 3, some (136, false)⟩,
    ⟨115, some 140, .ldL 139 208 (.c (.int .i64)), some (136, false)⟩,
    ⟨116, some 141, .bin .shl .i64 (.t 138) (.t 140), some (136, false)⟩,
    ⟨117, some 142, .faddr 3 1, some (136, false)⟩,
    ⟨118, some 143, .ldL 142 208 (.c (.int .i64)), some (136, false)⟩,
    ⟨119, some 144, .cmp .neq .i64 (.t 141) (.t 143), some (136, false)⟩,
    ⟨120, some 145, .pick (.t 136) (.k (.c (.bool true))) (.t 144), none⟩]) (.cut [3, 145, 208] hodmanlaw2_ConfWhole.c21)) hodmanlaw2_ConfWhole.c58))))) }
def hodmanlaw2_ConfWhole.k58 (M : Mach) (C : Call) : Kont := execC M.j C (M.ag C) hodmanlaw2_ConfWhole.c58 ({ exits := [], ret := retK hodmanlaw2_ConfWhole.d } : Env) (retK hodmanlaw2_ConfWhole.d)
def hodmanlaw2_ConfWhole.J21 (M : Mach) (C : Call) (t145 : Bool) (r208_0 : Int) (r208_1 : Int) (r208_2 : Int) (r208_3 : Int) (r208_4 : Int) (r208_5 : Int) (r208_6 : Int) (r208_7 : Int) (G : GH) : Option Res := M.j (execC M.j C (M.ag C) hodmanlaw2_ConfWhole.c21 ({ exits := [], ret := retK hodmanlaw2_ConfWhole.d } : Env) (hodmanlaw2_ConfWhole.k58 M C)) [.und, .und, .und, .ref 208 0, .und, .und, .und, .und, .und, .und, .und, .und, .und, .und, .und, .und, .und, .und, .und, .und, .und, .und, .und, .und, .und, .und, .und, .und, .und, .und, .und, .und, .und, .und, .und, .und, .und, .und, .und, .und, .und, .und, .und, .und, .und, .und, .und, .und, .und, .und, .und, .und, .und, .und, .und, .und, .und, .und, .und, .und, .und, .und, .und, .und, .und, .und, .und, .und, .und, .und, .und, .und, .und, .und, .und, .und, .und, .und, .und, .und, .und, .und, .und, .und, .und, .und, .und, .und, .und, .und, .und, .und, .und, .und, .und, .und, .und, .und, .und, .und, .und, .und, .und, .und, .und, .und, .und, .und, .und, .und, .und, .und, .und, .und, .und, .und, .und, .und, .und, .und, .und, .und, .und, .und, .und, .und, .und, .und, .und, .und, .und, .und, .und, .und, .und, .und, .und, .und, .und, .und, .und, .und, .und, .und, .und, .v (.c (.bool t145)), .und, .und, .und, .und, .und, .und, .und, .und, .und, .und, .und, .und, .und, .und, .und, .und, .und, .und, .und, .und, .und, .und, .und, .und, .und, .und, .und, .und, .und, .und, .und, .und, .und, .und, .und, .und, .und, .und, .und, .und, .und, .und, .und, .und, .und, .und, .und, .und, .und, .und, .und, .und, .und, .und, .und, .und, .und, .und, .und, .und, .und, .und, .box [.int .i64 r208_0, .int .i64 r208_1, .int .i64 r208_2, .int .i64 r208_3, .int .i64 r208_4, .int .i64 r208_5, .int .i64 r208_6, .int .i64 r208_7]] G
def hodmanlaw2_ConfWhole.k57 (M : Mach) (C : Call) : Kont := execC M.j C (M.ag C) hodmanlaw2_ConfWhole.c57 ({ exits := [], ret := retK hodmanlaw2_ConfWhole.d } : Env) (retK hodmanlaw2_ConfWhole.d)
def hodmanlaw2_ConfWhole.e53 (M : Mach) (C : Call) : Env := { exits := (0, (hodmanlaw2_ConfWhole.k57 M C)) :: (({ exits := [], ret := retK hodmanlaw2_ConfWhole.d } : Env)).exits, ret := (({ exits := [], ret := retK hodmanlaw2_ConfWhole.d } : Env)).ret }
def hodmanlaw2_ConfWhole.L52 (M : Mach) (C : Call) (a5 : Int) (r208_0 : Int) (r208_1 : Int) (r208_2 : Int) (r208_3 : Int) (r208_4 : Int) (r208_5 : Int) (r208_6 : Int) (r208_7 : Int) (G : GH) : Option Res := M.ag C [3, 5, 208] hodmanlaw2_ConfWhole.c51 (hodmanlaw2_ConfWhole.e53 M C) (hodmanlaw2_ConfWhole.k57 M C) [.und, .und, .und, .ref 208 0, .und, .v (.c (.int .i64 a5)), .und, .und, .und, .und, .und, .und, .und, .und, .und, .und, .und, .und, .und, .und, .und, .und, .und, .und, .und, .und, .und, .und, .und, .und, .und, .und, .und, .und, .und, .und, .und, .und, .und, .und, .und, .und, .und, .und, .und, .und, .und, .und, .und, .und, .und, .und, .und, .und, .und, .und, .und, .und, .und, .und, .und, .und, .und, .und, .und, .und, .und, .und, .und, .und, .und, .und, .und, .und, .und, .und, .und, .und, .und, .und, .und, .und, .und, .und, .und, .und, .und, .und, .und, .und, .und, .und, .und, .und, .und, .und, .und, .und, .und, .und, .und, .und, .und, .und, .und, .und, .und, .und, .und, .und, .und, .und, .und, .und, .und, .und, .und, .und, .und, .und, .und, .und, .und, .und, .und, .und, .und, .und, .und, .und, .und, .und, .und, .und, .und, .und, .und, .und, .und, .und, .und, .und, .und, .und, .und, .und, .und, .und, .und, .und, .und, .und, .und, .und, .und, .und, .und, .und, .und, .und, .und, .und, .und, .und, .und, .und, .und, .und, .und, .und, .und, .und, .und, .und, .und, .und, .und, .und, .und, .und, .und, .und, .und, .und, .und, .und, .und, .und, .und, .und, .und, .und, .und, .und, .und, .und, .und, .und, .und, .und, .und, .und, .und, .und, .und, .und, .und, .und, .box [.int .i64 r208_0, .int .i64 r208_1, .int .i64 r208_2, .int .i64 r208_3, .int .i64 r208_4, .int .i64 r208_5, .int .i64 r208_6, .int .i64 r208_7]] G
def hodmanlaw2_ConfWhole.k52 (M : Mach) (C : Call) : Kont := fun tm G => M.ag C [3, 5, 208] hodmanlaw2_ConfWhole.c51 (hodmanlaw2_ConfWhole.e53 M C) (hodmanlaw2_ConfWhole.k57 M C) (restr [3, 5, 208] 0 tm) G
def hodmanlaw2_ConfWhole.k49 (M : Mach) (C : Call) : Kont := execC M.j C (M.ag C) hodmanlaw2_ConfWhole.c49 (hodmanlaw2_ConfWhole.e53 M C) (hodmanlaw2_ConfWhole.k52 M C)
def hodmanlaw2_ConfWhole.e48 (M : Mach) (C : Call) : Env := { exits := (1, (hodmanlaw2_ConfWhole.k49 M C)) :: ((hodmanlaw2_ConfWhole.e53 M C)).exits, ret := ((hodmanlaw2_ConfWhole.e53 M C)).ret }
def hodmanlaw2_ConfWhole.k45 (M : Mach) (C : Call) : Kont := execC M.j C (M.ag C) hodmanlaw2_ConfWhole.c45 (hodmanlaw2_ConfWhole.e48 M C) (hodmanlaw2_ConfWhole.k49 M C)
def hodmanlaw2_ConfWhole.J35 (M : Mach) (C : Call) (a5 : Int) (t178 : Bool) (r208_0 : Int) (r208_1 : Int) (r208_2 : Int) (r208_3 : Int) (r208_4 : Int) (r208_5 : Int) (r208_6 : Int) (r208_7 : Int) (G : GH) : Option Res := M.j (execC M.j C (M.ag C) hodmanlaw2_ConfWhole.c35 (hodmanlaw2_ConfWhole.e48 M C) (hodmanlaw2_ConfWhole.k45 M C)) [.und, .und, .und, .ref 208 0, .und, .v (.c (.int .i64 a5)), .und, .und, .und, .und, .und, .und, .und, .und, .und, .und, .und, .und, .und, .und, .und, .und, .und, .und, .und, .und, .und, .und, .und, .und, .und, .und, .und, .und, .und, .und, .und, .und, .und, .und, .und, .und, .und, .und, .und, .und, .und, .und, .und, .und, .und, .und, .und, .und, .und, .und, .und, .und, .und, .und, .und, .und, .und, .und, .und, .und, .und, .und, .und, .und, .und, .und, .und, .und, .und, .und, .und, .und, .und, .und, .und, .und, .und, .und, .und, .und, .und, .und, .und, .und, .und, .und, .und, .und, .und, .und, .und, .und, .und, .und, .und, .und, .und, .und, .und, .und, .und, .und, .und, .und, .und, .und, .und, .und, .und, .und, .und, .und, .und, .und, .und, .und, .und, .und, .und, .und, .und, .und, .und, .und, .und, .und, .und, .und, .und, .und, .und, .und, .und, .und, .und, .und, .und, .und, .und, .und, .und, .und, .und, .und, .und, .und, .und, .und, .und, .und, .und, .und, .und, .und, .und, .und, .und, .und, .und, .und, .und, .und, .und, .und, .und, .und, .und, .und, .und, .und, .und, .und, .v (.c (.bool t178)), .und, .und, .und, .und, .und, .und, .und, .und, .und, .und, .und, .und, .und, .und, .und, .und, .und, .und, .und, .und, .und, .und, .und, .und, .und, .und, .und, .und, .und, .box [.int .i64 r208_0, .int .i64 r208_1, .int .i64 r208_2, .int .i64 r208_3, .int .i64 r208_4, .int .i64 r208_5, .int .i64 r208_6, .int .i64 r208_7]] G
def hodmanlaw2_ConfWhole.J43 (M : Mach) (C : Call) (a5 : Int) (t194 : Bool) (r208_0 : Int) (r208_1 : Int) (r208_2 : Int) (r208_3 : Int) (r208_4 : Int) (r208_5 : Int) (r208_6 : Int) (r208_7 : Int) (G : GH) : Option Res := M.j (execC M.j C (M.ag C) hodmanlaw2_ConfWhole.c43 (hodmanlaw2_ConfWhole.e48 M C) (hodmanlaw2_ConfWhole.k49 M C)) [.und, .und, .und, .ref 208 0, .und, .v (.c (.int .i64 a5)), .und, .und, .und, .und, .und, .und, .und, .und, .und, .und, .und, .und, .und, .und, .und, .und, .und, .und, .und, .und, .und, .und, .und, .und, .und, .und, .und, .und, .und, .und, .und, .und, .und, .und, .und, .und, .und, .und, .und, .und, .und, .und, .und, .und, .und, .und, .und, .und, .und, .und, .und, .und, .und, .und, .und, .und, .und, .und, .und, .und, .und, .und, .und, .und, .und, .und, .und, .und, .und, .und, .und, .und, .und, .und, .und, .und, .und, .und, .und, .und, .und, .und, .und, .und, .und, .und, .und, .und, .und, .und, .und, .und, .und, .und, .und, .und, .und, .und, .und, .und, .und, .und, .und, .und, .und, .und, .und, .und, .und, .und, .und, .und, .und, .und, .und, .und, .und, .und, .und, .und, .und, .und, .und, .und, .und, .und, .und, .und, .und, .und, .und, .und, .und, .und, .und, .und, .und, .und, .und, .und, .und, .und, .und, .und, .und, .und, .und, .und, .und, .und, .und, .und, .und, .und, .und, .und, .und, .und, .und, .und, .und, .und, .und, .und, .und, .und, .und, .und, .und, .und, .und, .und, .und, .und, .und, .und, .und, .und, .und, .und, .und, .und, .und, .und, .und, .und, .und, .und, .v (.c (.bool t194)), .und, .und, .und, .und, .und, .und, .und, .und, .und, .und, .und, .und, .und, .box [.int .i64 r208_0, .int .i64 r208_1, .int .i64 r208_2, .int .i64 r208_3, .int .i64 r208_4, .int .i64 r208_5, .int .i64 r208_6, .int .i64 r208_7]] G
theorem hodmanlaw2_ConfWhole.J21_eq (M : Mach) (C : Call) (t145 : Bool) (r208_0 : Int) (r208_1 : Int) (r208_2 : Int) (r208_3 : Int) (r208_4 : Int) (r208_5 : Int) (r208_6 : Int) (r208_7 : Int) (G : GH) : hodmanlaw2_ConfWhole.J21 M C t145 r208_0 r208_1 r208_2 r208_3 r208_4 r208_5 r208_6 r208_7 G = (bif t145 then some ([.c (.bool false)], G) else hodmanlaw2_ConfWhole.L52 M C 0 r208_0 r208_1 r208_2 r208_3 r208_4 r208_5 r208_6 r208_7 G) := (M.hj _ _ _).trans (by kernel_rfl)
theorem hodmanlaw2_ConfWhole.L52_eq (M : Mach) (C : Call) (a5 : Int) (r208_0 : Int) (r208_1 : Int) (r208_2 : Int) (r208_3 : Int) (r208_4 : Int) (r208_5 : Int) (r208_6 : Int) (r208_7 : Int) (G : GH) : hodmanlaw2_ConfWhole.L52 M C a5 r208_0 r208_1 r208_2 r208_3 r208_4 r208_5 r208_6 r208_7 G = (bif decide (a5 ≤ r208_3) then (C conf_Ceil.id [.agg [.int .i64 r208_0, .int .i64 r208_1, .int .i64 r208_2, .int .i64 r208_3, .int .i64 r208_4, .int .i64 r208_5, .int .i64 r208_6, .int .i64 r208_7], .c (.int .i64 a5)] G).bind fun qr_15 => (((qr_15.1[0]?).bind V1.c?).bind (Cell.asI .i64)).bind fun qx_16 => (binD .rem .i64 qx_16 r208_4).bind fun qx_17 => bif (!decide (qx_17 = 0)) then hodmanlaw2_ConfWhole.J35 M C a5 true r208_0 r208_1 r208_2 r208_3 r208_4 r208_5 r208_6 r208_7 qr_15.2 else (binD .rem .i64 qx_16 r208_1).bind fun qx_18 => bif (!decide (qx_18 = 0)) then hodmanlaw2_ConfWhole.J35 M C a5 true r208_0 r208_1 r208_2 r208_3 r208_4 r208_5 r208_6 r208_7 qr_15.2 else hodmanlaw2_ConfWhole.J35 M C a5 (!decide (IntKind.i64.wrap (2 * (IntKind.i64.wrap (qx_16 - r208_2))) = IntKind.i64.wrap (a5 * r208_2))) r208_0 r208_1 r208_2 r208_3 r208_4 r208_5 r208_6 r208_7 qr_15.2 else (C conf_Ceil.id [.agg [.int .i64 r208_0, .int .i64 r208_1, .int .i64 r208_2, .int .i64 r208_3, .int .i64 r208_4, .int .i64 r208_5, .int .i64 r208_6, .int .i64 r208_7], .c (.int .i64 r208_3)] G).bind fun qr_19 => (((qr_19.1[0]?).bind V1.c?).bind (Cell.asI .i64)).bind fun qx_20 => bif decide (qx_20 = r208_6) then some ([.c (.bool (decide (r208_6 ≤ 65536)))], qr_19.2) else some ([.c (.bool false)], qr_19.2)) := (M.hs _ _ _ _ _ _ _).trans (by kernel_rfl)
theorem hodmanlaw2_ConfWhole.J35_eq (M : Mach) (C : Call) (a5 : Int) (t178 : Bool) (r208_0 : Int) (r208_1 : Int) (r208_2 : Int) (r208_3 : Int) (r208_4 : Int) (r208_5 : Int) (r208_6 : Int) (r208_7 : Int) (G : GH) : hodmanlaw2_ConfWhole.J35 M C a5 t178 r208_0 r208_1 r208_2 r208_3 r208_4 r208_5 r208_6 r208_7 G = (bif t178 then some ([.c (.bool false)], G) else (binD .shl .i64 r208_0 a5).bind fun qx_21 => (C conf_Shift.id [.agg [.int .i64 r208_0, .int .i64 r208_1, .int .i64 r208_2, .int .i64 r208_3, .int .i64 r208_4, .int .i64 r208_5, .int .i64 r208_6, .int .i64 r208_7], .c (.int .i64 qx_21)] G).bind fun qr_22 => (((qr_22.1[0]?).bind V1.c?).bind (Cell.asI .i64)).bind fun qx_23 => (((qr_22.1[1]?).bind V1.c?).bind Cell.asB).bind fun qb_24 => bif (!qb_24) then hodmanlaw2_ConfWhole.J43 M C a5 true r208_0 r208_1 r208_2 r208_3 r208_4 r208_5 r208_6 r208_7 qr_22.2 else hodmanlaw2_ConfWhole.J43 M C a5 (!decide (qx_23 = a5)) r208_0 r208_1 r208_2 r208_3 r208_4 r208_5 r208_6 r208_7 qr_22.2) := (M.hj _ _ _).trans (by kernel_rfl)
theorem hodmanlaw2_ConfWhole.J43_eq (M : Mach) (C : Call) (a5 : Int) (t194 : Bool) (r208_0 : Int) (r208_1 : Int) (r208_2 : Int) (r208_3 : Int) (r208_4 : Int) (r208_5 : Int) (r208_6 : Int) (r208_7 : Int) (G : GH) : hodmanlaw2_ConfWhole.J43 M C a5 t194 r208_0 r208_1 r208_2 r208_3 r208_4 r208_5 r208_6 r208_7 G = (bif t194 then some ([.c (.bool false)], G) else hodmanlaw2_ConfWhole.L52 M C (IntKind.i64.wrap (a5 + 1)) r208_0 r208_1 r208_2 r208_3 r208_4 r208_5 r208_6 r208_7 G) := (M.hj _ _ _).trans (by kernel_rfl)
def hodmanlaw2_ConfWhole.f (M : Mach) (C : Call) (t0_0 : Int) (t0_1 : Int) (t0_2 : Int) (t0_3 : Int) (t0_4 : Int) (t0_5 : Int) (G : GH) : Option Res := (C hodmanlaw2_begun.id [] G).bind fun qr_1 => (((qr_1.1[0]?).bind V1.c?).bind Cell.asB).bind fun qb_2 => bif (!qb_2) then some ([.c (.bool false)], qr_1.2) else (C conf_Of.id [.agg [.int .i64 t0_0, .int .i64 t0_1, .int .i64 t0_2, .int .i64 t0_3, .int .i64 t0_4, .int .i64 t0_5]] qr_1.2).bind fun qr_3 => ((qr_3.1[0]?).bind V1.a?).bind fun qcs_4 => if qcs_4.length = 8 then (((qcs_4[0]?).bind (Cell.asI .i64)).bind fun qx_5 => ((qcs_4[1]?).bind (Cell.asI .i64)).bind fun qx_6 => ((qcs_4[2]?).bind (Cell.asI .i64)).bind fun qx_7 => ((qcs_4[3]?).bind (Cell.asI .i64)).bind fun qx_8 => ((qcs_4[4]?).bind (Cell.asI .i64)).bind fun qx_9 => ((qcs_4[5]?).bind (Cell.asI .i64)).bind fun qx_10 => ((qcs_4[6]?).bind (Cell.asI .i64)).bind fun qx_11 => ((qcs_4[7]?).bind (Cell.asI .i64)).bind fun qx_12 => (((qr_3.1[1]?).bind V1.c?).bind (Cell.asI .i64)).bind fun qx_13 => bif (!decide (qx_13 = 0)) then bif decide (qx_13 = 1) then some ([.c (.bool (Bool.xor false (decide (qx_5 = 0) && (decide (qx_6 = 0) && (decide (qx_7 = 0) && (decide (qx_8 = 0) && (decide (qx_9 = 0) && (decide (qx_10 = 0) && (decide (qx_11 = 0) && (decide (qx_12 = 0) && true))))))))))], qr_3.2) else some ([.c (.bool false)], qr_3.2) else bif decide (qx_5 < t0_0) then hodmanlaw2_ConfWhole.J21 M C true qx_5 qx_6 qx_7 qx_8 qx_9 qx_10 qx_11 qx_12 qr_3.2 else bif decide (qx_6 < t0_1) then hodmanlaw2_ConfWhole.J21 M C true qx_5 qx_6 qx_7 qx_8 qx_9 qx_10 qx_11 qx_12 qr_3.2 else bif decide (qx_6 < qx_5) then hodmanlaw2_ConfWhole.J21 M C true qx_5 qx_6 qx_7 qx_8 qx_9 qx_10 qx_11 qx_12 qr_3.2 else bif decide (qx_9 < qx_5) then hodmanlaw2_ConfWhole.J21 M C true qx_5 qx_6 qx_7 qx_8 qx_9 qx_10 qx_11 qx_12 qr_3.2 else bif decide (qx_9 < t0_3) then hodmanlaw2_ConfWhole.J21 M C true qx_5 qx_6 qx_7 qx_8 qx_9 qx_10 qx_11 qx_12 qr_3.2 else bif decide (qx_7 < t0_2) then hodmanlaw2_ConfWhole.J21 M C true qx_5 qx_6 qx_7 qx_8 qx_9 qx_10 qx_11 qx_12 qr_3.2 else bif decide (qx_5 ≥ IntKind.i64.wrap (2 * t0_0)) then hodmanlaw2_ConfWhole.J21 M C true qx_5 qx_6 qx_7 qx_8 qx_9 qx_10 qx_11 qx_12 qr_3.2 else bif decide (qx_6 ≥ IntKind.i64.wrap (2 * (mx2 t0_1 qx_5))) then hodmanlaw2_ConfWhole.J21 M C true qx_5 qx_6 qx_7 qx_8 qx_9 qx_10 qx_11 qx_12 qr_3.2 else bif decide (qx_9 ≥ IntKind.i64.wrap (2 * (mx2 t0_3 qx_5))) then hodmanlaw2_ConfWhole.J21 M C true qx_5 qx_6 qx_7 qx_8 qx_9 qx_10 qx_11 qx_12 qr_3.2 else bif decide (IntKind.i64.wrap (qx_7 - t0_2) ≥ IntKind.i64.wrap (2 * (mx2 qx_6 qx_9))) then hodmanlaw2_ConfWhole.J21 M C true qx_5 qx_6 qx_7 qx_8 qx_9 qx_10 qx_11 qx_12 qr_3.2 else bif (!decide (IntKind.i64.wrap (((BitVec.ofInt IntKind.i64.bits qx_5) &&& (BitVec.ofInt IntKind.i64.bits (IntKind.i64.wrap (qx_5 - 1)))).toNat : Int) = 0)) then hodmanlaw2_ConfWhole.J21 M C true qx_5 qx_6 qx_7 qx_8 qx_9 qx_10 qx_11 qx_12 qr_3.2 else bif (!decide (IntKind.i64.wrap (((BitVec.ofInt IntKind.i64.bits qx_6) &&& (BitVec.ofInt IntKind.i64.bits (IntKind.i64.wrap (qx_6 - 1)))).toNat : Int) = 0)) then hodmanlaw2_ConfWhole.J21 M C true qx_5 qx_6 qx_7 qx_8 qx_9 qx_10 qx_11 qx_12 qr_3.2 else bif (!decide (IntKind.i64.wrap (((BitVec.ofInt IntKind.i64.bits qx_9) &&& (BitVec.ofInt IntKind.i64.bits (IntKind.i64.wrap (qx_9 - 1)))).toNat : Int) = 0)) then hodmanlaw2_ConfWhole.J21 M C true qx_5 qx_6 qx_7 qx_8 qx_9 qx_10 qx_11 qx_12 qr_3.2 else (binD .shl .i64 qx_5 qx_8).bind fun qx_14 => hodmanlaw2_ConfWhole.J21 M C (!decide (qx_14 = qx_6)) qx_5 qx_6 qx_7 qx_8 qx_9 qx_10 qx_11 qx_12 qr_3.2) else none
theorem hodmanlaw2_ConfWhole.eq (M : Mach) (C : Call) (t0_0 : Int) (t0_1 : Int) (t0_2 : Int) (t0_3 : Int) (t0_4 : Int) (t0_5 : Int) (G : GH) : runF M C hodmanlaw2_ConfWhole.d [.agg [.int .i64 t0_0, .int .i64 t0_1, .int .i64 t0_2, .int .i64 t0_3, .int .i64 t0_4, .int .i64 t0_5]] G = hodmanlaw2_ConfWhole.f M C t0_0 t0_1 t0_2 t0_3 t0_4 t0_5 G := by kernel_rfl

/- 26 hodman/conf.Of -/
def conf_Of.c6 : DCode := (.cond (.t 35) (.seq (.region [⟨0, some 36, .build [.int .i64 0, .int .i64 0, .int .i64 0, .int .i64 0, .int .i64 0, .int .i64 0, .int .i64 0, .int .i64 0] [], none⟩,
    ⟨1, none, .stL 2 108 (.t 36) 8, none⟩,
    ⟨2, some 3, .move (.k (.c (.int .i64 1))), none⟩]) .ret) .skip)
def conf_Of.c32 : DCode := (.seq (.region [⟨0, some 37, .faddr 1 4, none⟩,
    ⟨1, some 38, .ldL 37 107 (.c (.int .i64)), none⟩,
    ⟨2, some 39, .faddr 1 5, none⟩,
    ⟨3, some 40, .ldL 39 107 (.c (.int .i64)), none⟩,
    ⟨4, some 41, .build [.int .i64 0, .int .i64 0, .int .i64 0, .int .i64 0, .int .i64 0, .int .i64 0, .int .i64 0, .int .i64 0] [(5, 1, .t 38), (7, 1, .t 40)], none⟩,
    ⟨5, some 4, .boxz 109 [48, 52, 58, 62, 68, 72, 74, 81, 83, 85, 91, 92, 94, 96, 101, 102] [.int .i64 0, .int .i64 0, .int .i64 0, .int .i64 0, .int .i64 0, .int .i64 0, .int .i64 0, .int .i64 0], none⟩,
    ⟨6, none, .stL 4 109 (.t 41) 8, none⟩]) (.seq (.region [⟨0, some 43, .faddr 1 0, none⟩,
    ⟨1, some 44, .ldL 43 107 (.c (.int .i64)), none⟩,
    ⟨2, some 45, .call 38 [.t 44] [.c (.int .i64), .c (.bool)], none⟩,
    ⟨3, some 42, .move (.t 45), none⟩,
    ⟨4, some 46, .ext 42 0, none⟩,
    ⟨5, some 47, .ext 42 1, none⟩,
    ⟨6, some 48, .faddr 4 0, none⟩,
    ⟨7, none, .stL 48 109 (.t 46) 1, none⟩]) (.seq (.region [⟨0, some 50, .faddr 1 1, none⟩,
    ⟨1, some 51, .ldL 50 107 (.c (.int .i64)), none⟩,
    ⟨2, some 52, .faddr 4 0, none⟩,
    ⟨3, some 53, .ldL 52 109 (.c (.int .i64)), none⟩,
    ⟨4, some 54, .mx (.t 51) [.t 53], none⟩,
    ⟨5, some 55, .call 38 [.t 54] [.c (.int .i64), .c (.bool)], none⟩,
    ⟨6, some 49, .move (.t 55), none⟩,
    ⟨7, some 56, .ext 49 0, none⟩,
    ⟨8, some 57, .ext 49 1, none⟩,
    ⟨9, some 58, .faddr 4 1, none⟩,
    ⟨10, none, .stL 58 109 (.t 56) 1, none⟩]) (.seq (.region [⟨0, some 60, .faddr 1 3, none⟩,
    ⟨1, some 61, .ldL 60 107 (.c (.int .i64)), none⟩,
    ⟨2, some 62, .faddr 4 0, none⟩,
    ⟨3, some 63, .ldL 62 109 (.c (.int .i64)), none⟩,
    ⟨4, some 64, .mx (.t 61) [.t 63], none⟩,
    ⟨5, some 65, .call 38 [.t 64] [.c (.int .i64), .c (.bool)], none⟩,
    ⟨6, some 59, .move (.t 65), none⟩,
    ⟨7, some 66, .ext 59 0, none⟩,
    ⟨8, some 67, .ext 59 1, none⟩,
    ⟨9, some 68, .faddr 4 4, none⟩,
    ⟨10, none, .stL 68 109 (.t 66) 1, none⟩]) (.seq (.region [⟨0, some 70, .faddr 1 2, none⟩,
    ⟨1, some 71, .ldL 70 107 (.c (.int .i64)), none⟩,
    ⟨2, some 72, .faddr 4 1, none⟩,
    ⟨3, some 73, .ldL 72 109 (.c (.int .i64)), none⟩,
    ⟨4, some 74, .faddr 4 4, none⟩,
    ⟨5, some 75, .ldL 74 109 (.c (.int .i64)), none⟩,
    ⟨6, some 76, .mx (.t 73) [.t 75], none⟩,
    ⟨7, some 77, .bin .shl .i64 (.t 76) (.k (.c (.int .u64 1))), none⟩,
    ⟨8, some 78, .call 47 [.t 71, .t 77] [.c (.int .i64), .c (.bool)], none⟩,
    ⟨9, some 69, .move (.t 78), none⟩,
    ⟨10, some 79, .ext 69 0, none⟩,
    ⟨11, some 80, .ext 69 1, none⟩,
    ⟨12, some 81, .faddr 4 2, none⟩,
    ⟨13, none, .stL 81 109 (.t 79) 1, none⟩]) (.seq (.region [⟨0, some 83, .faddr 4 1, none⟩,
    ⟨1, some 84, .ldL 83 109 (.c (.int .i64)), none⟩,
    ⟨2, some 85, .faddr 4 0, none⟩,
    ⟨3, some 86, .ldL 85 109 (.c (.int .i64)), none⟩,
    ⟨4, some 87, .bin .quo .i64 (.t 84) (.t 86), none⟩,
    ⟨5, some 88, .call 37 [.t 87] [.c (.int .i64), .c (.bool)], none⟩,
    ⟨6, some 82, .move (.t 88), none⟩,
    ⟨7, some 89, .ext 82 0, none⟩,
    ⟨8, some 90, .ext 82 1, none⟩,
    ⟨9, some 91, .faddr 4 3, none⟩,
    ⟨10, none, .stL 91 109 (.t 89) 1, none⟩]) (.seq (.region [⟨0, some 92, .faddr 4 2, none⟩,
    ⟨1, some 93, .ldL 92 109 (.c (.int .i64)), none⟩,
    ⟨2, some 94, .faddr 4 3, none⟩,
    ⟨3, some 95, .ldL 94 109 (.c (.int .i64)), none⟩,
    ⟨4, some 96, .faddr 4 2, none⟩,
    ⟨5, some 97, .ldL 96 109 (.c (.int .i64)), none⟩,
    ⟨6, some 98, .bin .shr .i64 (.t 97) (.k (.c (.int .u64 1))), none⟩,
    ⟨7, some 99, .bin .mul .i64 (.t 95) (.t 98), none⟩,
    ⟨8, some 100, .bin .add .i64 (.t 93) (.t 99), none⟩,
    ⟨9, some 101, .faddr 4 6, none⟩,
    ⟨10, none, .stL 101 109 (.t 100) 1, none⟩]) (.seq (.seq (.region [⟨0, some 102, .faddr 4 6, none⟩,
    ⟨1, some 103, .ldL 102 109 (.c (.int .i64)), none⟩,
    ⟨2, some 104, .cmp .gtr .i64 (.t 103) (.k (.c (.int .i64 65536))), none⟩]) (.cond (.t 104) (.seq (.region [⟨0, some 105, .build [.int .i64 0, .int .i64 0, .int .i64 0, .int .i64 0, .int .i64 0, .int .i64 0, .int .i64 0, .int .i64 0] [], none⟩,
    ⟨1, none, .stL 2 108 (.t 105) 8, none⟩,
    ⟨2, some 3, .move (.k (.c (.int .i64 1))), none⟩]) .ret) .skip)) (.seq (.region [⟨0, some 106, .ldL 4 109 (.agg [.int .i64, .int .i64, .int .i64, .int .i64, .int .i64, .int .i64, .int .i64, .int .i64]), none⟩,
    ⟨1, none, .stL 2 108 (.t 106) 8, none⟩,
    ⟨2, some 3, .move (.k (.c (.int .i64 0))), none⟩]) .ret)))))))))
def conf_Of.d : DFn := { ntmps := 110, res := [.box 2 (some 8), .t 3], body := (.seq (.region [⟨0, some 1, .boxv 107 [5, 7, 9, 11, 17, 22, 27, 32, 37, 39, 43, 50, 60, 70] (.t 0) 6, none⟩,
    ⟨1, some 2, .boxz 108 [] [.int .i64 0, .int .i64 0, .int .i64 0, .int .i64 0, .int .i64 0, .int .i64 0, .int .i64 0, .int .i64 0], none⟩,
    ⟨2, some 3, .move (.k (.c (.int .i64 0))), none⟩]) (.seq (.seq (.region [⟨0, some 5, .faddr 1 0, none⟩,
    ⟨1, some 6, .ldL 5 107 (.c (.int .i64)), none⟩,
    ⟨2, some 7, .faddr 1 1, none⟩,
    ⟨3, some 8, .ldL 7 107 (.c (.int .i64)), none⟩,
    ⟨4, some 9, .faddr 1 2, none⟩,
    ⟨5, some 10, .ldL 9 107 (.c (.int .i64)), none⟩,
    ⟨6, some 11, .faddr 1 3, none⟩,
    ⟨7, some 12, .ldL 11 107 (.c (.int .i64)), none⟩,
    ⟨8, some 13, .bslice 4 1 [.int .i64 0, .int .i64 0, .int .i64 0, .int .i64 0] [(0, 1, .t 6), (1, 1, .t 8), (2, 1, .t 10), (3, 1, .t 12)], none⟩,
    ⟨9, some 14, .call 46 [.t 13] [.c (.bool)], none⟩,
    ⟨10, some 15, .not (.t 14), none⟩,
    ⟨11, some 16, .move (.t 15), none⟩,
    ⟨12, some 17, .faddr 1 4, some (16, false)⟩,
    ⟨13, some 18, .ldL 17 107 (.c (.int .i64)), some (16, false)⟩,
    ⟨14, some 19, .cmp .lss .i64 (.t 18) (.k (.c (.int .i64 0))), some (16, false)⟩,
    ⟨15, some 20, .pick (.t 16) (.k (.c (.bool true))) (.t 19), none⟩,
    ⟨16, some 21, .move (.t 20), none⟩,
    ⟨17, some 22, .faddr 1 4, some (21, false)⟩,
    ⟨18, some 23, .ldL 22 107 (.c (.int .i64)), some (21, false)⟩,
    ⟨19, some 24, .cmp .gtr .i64 (.t 23) (.k (.c (.int .i64 65536))), some (21, false)⟩,
    ⟨20, some 25, .pick (.t 21) (.k (.c (.bool true))) (.t 24), none⟩,
    ⟨21, some 26, .move (.t 25), none⟩,
    ⟨22, some 27, .faddr 1 5, some (26, false)⟩,
    ⟨23, some 28, .ldL 27 107 (.c (.int .i64)), some (26, false)⟩,
    ⟨24, some 29, .cmp .lss .i64 (.t 28) (.k (.c (.int .i64 0))), some (26, false)⟩,
    ⟨25, some 30, .pick (.t 26) (.k (.c (.bool true))) (.t 29), none⟩,
    ⟨26, some 31, .move (.t 30), none⟩,
    ⟨27, some 32, .faddr 1 5, some (31, false)⟩,
    ⟨28, some 33, .ldL 32 107 (.c (.int .i64)), some (31, false)⟩,
    ⟨29, some 34, .cmp .gtr .i64 (.t 33) (.k (.c (.int .i64 255))), some (31, false)⟩,
    ⟨30, some 35, .pick (.t 31) (.k (.c (.bool true))) (.t 34), none⟩]) (.cut [1, 2, 35, 107, 108] conf_Of.c6)) conf_Of.c32)) }
def conf_Of.k32 (M : Mach) (C : Call) : Kont := execC M.j C (M.ag C) conf_Of.c32 ({ exits := [], ret := retK conf_Of.d } : Env) (retK conf_Of.d)
def conf_Of.J6 (M : Mach) (C : Call) (t35 : Bool) (r107_0 : Int) (r107_1 : Int) (r107_2 : Int) (r107_3 : Int) (r107_4 : Int) (r107_5 : Int) (x108_0 : Int) (x108_1 : Int) (x108_2 : Int) (x108_3 : Int) (x108_4 : Int) (x108_5 : Int) (x108_6 : Int) (x108_7 : Int) (G : GH) : Option Res := M.j (execC M.j C (M.ag C) conf_Of.c6 ({ exits := [], ret := retK conf_Of.d } : Env) (conf_Of.k32 M C)) [.und, .ref 107 0, .ref 108 0, .und, .und, .und, .und, .und, .und, .und, .und, .und, .und, .und, .und, .und, .und, .und, .und, .und, .und, .und, .und, .und, .und, .und, .und, .und, .und, .und, .und, .und, .und, .und, .und, .v (.c (.bool t35)), .und, .und, .und, .und, .und, .und, .und, .und, .und, .und, .und, .und, .und, .und, .und, .und, .und, .und, .und, .und, .und, .und, .und, .und, .und, .und, .und, .und, .und, .und, .und, .und, .und, .und, .und, .und, .und, .und, .und, .und, .und, .und, .und, .und, .und, .und, .und, .und, .und, .und, .und, .und, .und, .und, .und, .und, .und, .und, .und, .und, .und, .und, .und, .und, .und, .und, .und, .und, .und, .und, .und, .box [.int .i64 r107_0, .int .i64 r107_1, .int .i64 r107_2, .int .i64 r107_3, .int .i64 r107_4, .int .i64 r107_5], .box [.int .i64 x108_0, .int .i64 x108_1, .int .i64 x108_2, .int .i64 x108_3, .int .i64 x108_4, .int .i64 x108_5, .int .i64 x108_6, .int .i64 x108_7], .und] G
theorem conf_Of.J6_eq (M : Mach) (C : Call) (t35 : Bool) (r107_0 : Int) (r107_1 : Int) (r107_2 : Int) (r107_3 : Int) (r107_4 : Int) (r107_5 : Int) (x108_0 : Int) (x108_1 : Int) (x108_2 : Int) (x108_3 : Int) (x108_4 : Int) (x108_5 : Int) (x108_6 : Int) (x108_7 : Int) (G : GH) : conf_Of.J6 M C t35 r107_0 r107_1 r107_2 r107_3 r107_4 r107_5 x108_0 x108_1 x108_2 x108_3 x108_4 x108_5 x108_6 x108_7 G = (bif t35 then some ([.agg [.int .i64 0, .int .i64 0, .int .i64 0, .int .i64 0, .int .i64 0, .int .i64 0, .int .i64 0, .int .i64 0], .c (.int .i64 1)], G) else (C calc_Up.id [.c (.int .i64 r107_0)] G).bind fun qr_4 => (((qr_4.1[0]?).bind V1.c?).bind (Cell.asI .i64)).bind fun qx_5 => (((qr_4.1[1]?).bind V1.c?).bind Cell.asB).bind fun qb_6 => (C calc_Up.id [.c (.int .i64 (mx2 r107_1 qx_5))] qr_4.2).bind fun qr_7 => (((qr_7.1[0]?).bind V1.c?).bind (Cell.asI .i64)).bind fun qx_8 => (((qr_7.1[1]?).bind V1.c?).bind Cell.asB).bind fun qb_9 => (C calc_Up.id [.c (.int .i64 (mx2 r107_3 qx_5))] qr_7.2).bind fun qr_10 => (((qr_10.1[0]?).bind V1.c?).bind (Cell.asI .i64)).bind fun qx_11 => (((qr_10.1[1]?).bind V1.c?).bind Cell.asB).bind fun qb_12 => (C calc_Round.id [.c (.int .i64 r107_2), .c (.int .i64 (IntKind.i64.wrap ((mx2 qx_8 qx_11) * 2 ^ (min (1 : Int).toNat IntKind.i64.bits))))] qr_10.2).bind fun qr_13 => (((qr_13.1[0]?).bind V1.c?).bind (Cell.asI .i64)).bind fun qx_14 => (((qr_13.1[1]?).bind V1.c?).bind Cell.asB).bind fun qb_15 => (binD .quo .i64 qx_8 qx_5).bind fun qx_16 => (C calc_Log.id [.c (.int .i64 qx_16)] qr_13.2).bind fun qr_17 => (((qr_17.1[0]?).bind V1.c?).bind (Cell.asI .i64)).bind fun qx_18 => (((qr_17.1[1]?).bind V1.c?).bind Cell.asB).bind fun qb_19 => bif decide (IntKind.i64.wrap (qx_14 + (IntKind.i64.wrap (qx_18 * (Int.fdiv qx_14 (2 ^ (min (1 : Int).toNat IntKind.i64.bits)))))) > 65536) then some ([.agg [.int .i64 0, .int .i64 0, .int .i64 0, .int .i64 0, .int .i64 0, .int .i64 0, .int .i64 0, .int .i64 0], .c (.int .i64 1)], qr_17.2) else some ([.agg [.int .i64 qx_5, .int .i64 qx_8, .int .i64 qx_14, .int .i64 qx_18, .int .i64 qx_11, .int .i64 r107_4, .int .i64 (IntKind.i64.wrap (qx_14 + (IntKind.i64.wrap (qx_18 * (Int.fdiv qx_14 (2 ^ (min (1 : Int).toNat IntKind.i64.bits))))))), .int .i64 r107_5], .c (.int .i64 0)], qr_17.2)) := (M.hj _ _ _).trans (by kernel_rfl)
def conf_Of.f (M : Mach) (C : Call) (r0_0 : Int) (r0_1 : Int) (r0_2 : Int) (r0_3 : Int) (r0_4 : Int) (r0_5 : Int) (G : GH) : Option Res := let qG_1 := G.alloc (.row [.int .i64 r0_0, .int .i64 r0_1, .int .i64 r0_2, .int .i64 r0_3] false); (C conf_within.id [.c (.sl 1 G.next 0 4)] qG_1).bind fun qr_2 => (((qr_2.1[0]?).bind V1.c?).bind Cell.asB).bind fun qb_3 => bif (!qb_3) then conf_Of.J6 M C true r0_0 r0_1 r0_2 r0_3 r0_4 r0_5 0 0 0 0 0 0 0 0 qr_2.2 else bif decide (r0_4 < 0) then conf_Of.J6 M C true r0_0 r0_1 r0_2 r0_3 r0_4 r0_5 0 0 0 0 0 0 0 0 qr_2.2 else bif decide (r0_4 > 65536) then conf_Of.J6 M C true r0_0 r0_1 r0_2 r0_3 r0_4 r0_5 0 0 0 0 0 0 0 0 qr_2.2 else bif decide (r0_5 < 0) then conf_Of.J6 M C true r0_0 r0_1 r0_2 r0_3 r0_4 r0_5 0 0 0 0 0 0 0 0 qr_2.2 else conf_Of.J6 M C (decide (r0_5 > 255)) r0_0 r0_1 r0_2 r0_3 r0_4 r0_5 0 0 0 0 0 0 0 0 qr_2.2
theorem conf_Of.eq (M : Mach) (C : Call) (r0_0 : Int) (r0_1 : Int) (r0_2 : Int) (r0_3 : Int) (r0_4 : Int) (r0_5 : Int) (G : GH) : runF M C conf_Of.d [.agg [.int .i64 r0_0, .int .i64 r0_1, .int .i64 r0_2, .int .i64 r0_3, .int .i64 r0_4, .int .i64 r0_5]] G = conf_Of.f M C r0_0 r0_1 r0_2 r0_3 r0_4 r0_5 G := by kernel_rfl

/- 24 hodman/hodmanlaw2.begun -/
def hodmanlaw2_begun.d : DFn := { ntmps := 47, res := [.t 0], body := (.seq (.region [⟨0, some 0, .move (.k (.c (.bool false))), none⟩]) (.seq (.region [⟨0, some 8, .build [.int .i64 0, .int .i64 0, .int .i64 0, .int .i64 0, .int .i64 0, .int .i64 0] [(0, 1, .k (.c (.int .i64 1))), (1, 1, .k (.c (.int .i64 4))), (2, 1, .k (.c (.int .i64 8))), (3, 1, .k (.c (.int .i64 4))), (4, 1, .k (.c (.int .i64 6)))], none⟩,
    ⟨1, some 9, .call 26 [.t 8] [.agg [.int .i64, .int .i64, .int .i64, .int .i64, .int .i64, .int .i64, .int .i64, .int .i64], .c (.int .i64)], none⟩,
    ⟨2, some 7, .move (.t 9), none⟩,
    ⟨3, some 10, .ext 7 0, none⟩,
    ⟨4, some 11, .ext 7 1, none⟩,
    ⟨5, some 1, .boxz 45 [] [.int .i64 0, .int .i64 0, .int .i64 0, .int .i64 0, .int .i64 0, .int .i64 0, .int .i64 0, .int .i64 0], none⟩,
    ⟨6, none, .stL 1 45 (.t 10) 8, none⟩,
    ⟨7, some 2, .move (.t 11), none⟩]) (.seq (.region [⟨0, some 13, .build [.int .i64 0, .int .i64 0, .int .i64 0, .int .i64 0, .int .i64 0, .int .i64 0] [], none⟩,
    ⟨1, some 14, .call 26 [.t 13] [.agg [.int .i64, .int .i64, .int .i64, .int .i64, .int .i64, .int .i64, .int .i64, .int .i64], .c (.int .i64)], none⟩,
    ⟨2, some 12, .move (.t 14), none⟩,
    ⟨3, some 15, .ext 12 0, none⟩,
    ⟨4, some 16, .ext 12 1, none⟩,
    ⟨5, some 3, .boxz 46 [] [.int .i64 0, .int .i64 0, .int .i64 0, .int .i64 0, .int .i64 0, .int .i64 0, .int .i64 0, .int .i64 0], none⟩,
    ⟨6, none, .stL 3 46 (.t 15) 8, none⟩,
    ⟨7, some 4, .move (.t 16), none⟩]) (.seq (.region [⟨0, some 18, .ldL 1 45 (.agg [.int .i64, .int .i64, .int .i64, .int .i64, .int .i64, .int .i64, .int .i64, .int .i64]), none⟩,
    ⟨1, some 19, .call 27 [.t 18, .k (.c (.int .i64 4))] [.c (.int .i64), .c (.bool)], none⟩,
    ⟨2, some 17, .move (.t 19), none⟩,
    ⟨3, some 20, .ext 17 0, none⟩,
    ⟨4, some 21, .ext 17 1, none⟩,
    ⟨5, some 5, .move (.t 20), none⟩,
    ⟨6, some 6, .move (.t 21), none⟩]) (.seq (.region [⟨0, some 22, .move (.t 2), none⟩,
    ⟨1, some 23, .cmp .eql .i64 (.t 22) (.k (.c (.int .i64 0))), none⟩,
    ⟨2, some 24, .move (.t 23), none⟩,
    ⟨3, some 25, .ldL 1 45 (.agg [.int .i64, .int .i64, .int .i64, .int .i64, .int .i64, .int .i64, .int .i64, .int .i64]), some (24, true)⟩,
    ⟨4, some 26, .build [.int .i64 0, .int .i64 0, .int .i64 0, .int .i64 0, .int .i64 0, .int .i64 0, .int .i64 0, .int .i64 0] [(0, 1, .k (.c (.int .i64 1))), (1, 1, .k (.c (.int .i64 4))), (2, 1, .k (.c (.int .i64 8))), (3, 1, .k (.c (.int .i64 2))), (4, 1, .k (.c (.int .i64 4))), (5, 1, .k (.c (.int .i64 6))), (6, 1, .k (.c (.int .i64 16)))], some (24, true)⟩,
    ⟨5, some 27, .aeq false [.int .i64, .int .i64, .int .i64, .int .i64, .int .i64, .int .i64, .int .i64, .int .i64] (.t 25) (.t 26), some (24, true)⟩,
    ⟨6, some 28, .pick (.t 24) (.t 27) (.k (.c (.bool false))), none⟩,
    ⟨7, some 29, .move (.t 28), none⟩,
    ⟨8, some 30, .move (.t 4), some (29, true)⟩,
    ⟨9, some 31, .cmp .eql .i64 (.t 30) (.k (.c (.int .i64 1))), some (29, true)⟩,
    ⟨10, some 32, .pick (.t 29) (.t 31) (.k (.c (.bool false))), none⟩,
    ⟨11, some 33, .move (.t 32), none⟩,
    ⟨12, some 34, .ldL 1 45 (.agg [.int .i64, .int .i64, .int .i64, .int .i64, .int .i64, .int .i64, .int .i64, .int .i64]), some (33, true)⟩,
    ⟨13, some 35, .call 28 [.t 34, .k (.c (.int .i64 1))] [.c (.int .i64)], some (33, true)⟩,
    ⟨14, some 36, .cmp .eql .i64 (.t 35) (.k (.c (.int .i64 12))), some (33, true)⟩,
    ⟨15, some 37, .pick (.t 33) (.t 36) (.k (.c (.bool false))), none⟩,
    ⟨16, some 38, .move (.t 37), none⟩,
    ⟨17, some 39, .move (.t 5), some (38, true)⟩,
    ⟨18, some 40, .cmp .eql .i64 (.t 39) (.k (.c (.int .i64 2))), some (38, true)⟩,
    ⟨19, some 41, .pick (.t 38) (.t 40) (.k (.c (.bool false))), none⟩,
    ⟨20, some 42, .move (.t 41), none⟩,
    ⟨21, some 43, .move (.t 6), some (42, true)⟩,
    ⟨22, some 44, .pick (.t 42) (.t 43) (.k (.c (.bool false))), none⟩,
    ⟨23, some 0, .move (.t 44), none⟩]) .ret))))) }
def hodmanlaw2_begun.f (M : Mach) (C : Call)  (G : GH) : Option Res := (C conf_Of.id [.agg [.int .i64 1, .int .i64 4, .int .i64 8, .int .i64 4, .int .i64 6, .int .i64 0]] G).bind fun qr_1 => ((qr_1.1[0]?).bind V1.a?).bind fun qcs_2 => if qcs_2.length = 8 then (((qcs_2[0]?).bind (Cell.asI .i64)).bind fun qx_3 => ((qcs_2[1]?).bind (Cell.asI .i64)).bind fun qx_4 => ((qcs_2[2]?).bind (Cell.asI .i64)).bind fun qx_5 => ((qcs_2[3]?).bind (Cell.asI .i64)).bind fun qx_6 => ((qcs_2[4]?).bind (Cell.asI .i64)).bind fun qx_7 => ((qcs_2[5]?).bind (Cell.asI .i64)).bind fun qx_8 => ((qcs_2[6]?).bind (Cell.asI .i64)).bind fun qx_9 => ((qcs_2[7]?).bind (Cell.asI .i64)).bind fun qx_10 => (((qr_1.1[1]?).bind V1.c?).bind (Cell.asI .i64)).bind fun qx_11 => (C conf_Of.id [.agg [.int .i64 0, .int .i64 0, .int .i64 0, .int .i64 0, .int .i64 0, .int .i64 0]] qr_1.2).bind fun qr_12 => ((qr_12.1[0]?).bind V1.a?).bind fun qcs_13 => if qcs_13.length = 8 then (((qcs_13[0]?).bind (Cell.asI .i64)).bind fun qx_14 => ((qcs_13[1]?).bind (Cell.asI .i64)).bind fun qx_15 => ((qcs_13[2]?).bind (Cell.asI .i64)).bind fun qx_16 => ((qcs_13[3]?).bind (Cell.asI .i64)).bind fun qx_17 => ((qcs_13[4]?).bind (Cell.asI .i64)).bind fun qx_18 => ((qcs_13[5]?).bind (Cell.asI .i64)).bind fun qx_19 => ((qcs_13[6]?).bind (Cell.asI .i64)).bind fun qx_20 => ((qcs_13[7]?).bind (Cell.asI .i64)).bind fun qx_21 => (((qr_12.1[1]?).bind V1.c?).bind (Cell.asI .i64)).bind fun qx_22 => (C conf_Shift.id [.agg [.int .i64 qx_3, .int .i64 qx_4, .int .i64 qx_5, .int .i64 qx_6, .int .i64 qx_7, .int .i64 qx_8, .int .i64 qx_9, .int .i64 qx_10], .c (.int .i64 4)] qr_12.2).bind fun qr_23 => (((qr_23.1[0]?).bind V1.c?).bind (Cell.asI .i64)).bind fun qx_24 => (((qr_23.1[1]?).bind V1.c?).bind Cell.asB).bind fun qb_25 => bif decide (qx_11 = 0) then bif Bool.xor false (decide (qx_3 = 1) && (decide (qx_4 = 4) && (decide (qx_5 = 8) && (decide (qx_6 = 2) && (decide (qx_7 = 4) && (decide (qx_8 = 6) && (decide (qx_9 = 16) && (decide (qx_10 = 0) && true)))))))) then bif decide (qx_22 = 1) then (C conf_Ceil.id [.agg [.int .i64 qx_3, .int .i64 qx_4, .int .i64 qx_5, .int .i64 qx_6, .int .i64 qx_7, .int .i64 qx_8, .int .i64 qx_9, .int .i64 qx_10], .c (.int .i64 1)] qr_23.2).bind fun qr_26 => (((qr_26.1[0]?).bind V1.c?).bind (Cell.asI .i64)).bind fun qx_27 => bif decide (qx_27 = 12) then bif decide (qx_24 = 2) then some ([.c (.bool qb_25)], qr_26.2) else some ([.c (.bool false)], qr_26.2) else some ([.c (.bool false)], qr_26.2) else some ([.c (.bool false)], qr_23.2) else some ([.c (.bool false)], qr_23.2) else some ([.c (.bool false)], qr_23.2)) else none) else none
theorem hodmanlaw2_begun.eq (M : Mach) (C : Call)  (G : GH) : runF M C hodmanlaw2_begun.d [] G = hodmanlaw2_begun.f M C  G := by kernel_rfl

/- 27 hodman/conf.Shift -/
def conf_Shift.c6 : DCode := (.cond (.t 23) (.seq (.region [⟨0, some 4, .move (.k (.c (.int .i64 0))), none⟩,
    ⟨1, some 5, .move (.k (.c (.bool false))), none⟩]) .ret) .skip)
def conf_Shift.c14 : DCode := (.cond (.t 39) (.seq (.region [⟨0, some 4, .move (.k (.c (.int .i64 0))), none⟩,
    ⟨1, some 5, .move (.k (.c (.bool false))), none⟩]) .ret) .skip)
def conf_Shift.c18 : DCode := (.seq (.region [⟨0, some 40, .move (.t 6), none⟩,
    ⟨1, some 4, .move (.t 40), none⟩,
    ⟨2, some 5, .move (.k (.c (.bool true))), none⟩]) .ret)
def conf_Shift.c20 : DCode := (.seq (.region [⟨0, some 25, .move (.t 1), none⟩,
    ⟨1, some 26, .faddr 2 0, none⟩,
    ⟨2, some 27, .ldL 26 41 (.c (.int .i64)), none⟩,
    ⟨3, some 28, .bin .quo .i64 (.t 25) (.t 27), none⟩,
    ⟨4, some 29, .call 37 [.t 28] [.c (.int .i64), .c (.bool)], none⟩,
    ⟨5, some 24, .move (.t 29), none⟩,
    ⟨6, some 30, .ext 24 0, none⟩,
    ⟨7, some 31, .ext 24 1, none⟩,
    ⟨8, some 6, .move (.t 30), none⟩,
    ⟨9, some 7, .move (.t 31), none⟩]) (.seq (.seq (.region [⟨0, some 32, .move (.t 7), none⟩,
    ⟨1, some 33, .not (.t 32), none⟩,
    ⟨2, some 34, .move (.t 33), none⟩,
    ⟨3, some 35, .move (.t 6), some (34, false)⟩,
    ⟨4, some 36, .faddr 2 3, some (34, false)⟩,
    ⟨5, some 37, .ldL 36 41 (.c (.int .i64)), some (34, false)⟩,
    ⟨6, some 38, .cmp .gtr .i64 (.t 35) (.t 37), some (34, false)⟩,
    ⟨7, some 39, .pick (.t 34) (.k (.c (.bool true))) (.t 38), none⟩]) (.cut [6, 39] conf_Shift.c14)) conf_Shift.c18))
def conf_Shift.d : DFn := { ntmps := 42, res := [.t 4, .t 5], body := (.seq (.region [⟨0, some 2, .boxv 41 [8, 13, 19, 26, 36] (.t 0) 8, none⟩,
    ⟨1, some 4, .move (.k (.c (.int .i64 0))), none⟩,
    ⟨2, some 5, .move (.k (.c (.bool false))), none⟩]) (.seq (.seq (.region [⟨0, some 8, .faddr 2 0, none⟩,
    ⟨1, some 9, .ldL 8 41 (.c (.int .i64)), none⟩,
    ⟨2, some 10, .cmp .lss .i64 (.t 9) (.k (.c (.int .i64 1))), none⟩,
    ⟨3, some 11, .move (.t 10), none⟩,
    ⟨4, some 12, .move (.t 1), some (11, false)⟩,
    ⟨5, some 13, .faddr 2 0, some (11, false)⟩,
    ⟨6, some 14, .ldL 13 41 (.c (.int .i64)), some (11, false)⟩,
    ⟨7, some 15, .cmp .lss .i64 (.t 12) (.t 14), some (11, false)⟩,
    ⟨8, some 16, .pick (.t 11) (.k (.c (.bool true))) (.t 15), none⟩,
    ⟨9, some 17, .move (.t 16), none⟩,
    ⟨10, some 18, .move (.t 1), some (17, false)⟩,
    ⟨11, some 19, .faddr 2 0, some (17, false)⟩,
    ⟨12, some 20, .ldL 19 41 (.c (.int .i64)), some (17, false)⟩,
    ⟨13, some 21, .bin .rem .i64 (.t 18) (.t 20), some (17, false)⟩,
    ⟨14, some 22, .cmp .neq .i64 (.t 21) (.k (.c (.int .i64 0))), some (17, false)⟩,
    ⟨15, some 23, .pick (.t 17) (.k (.c (.bool true))) (.t 22), none⟩]) (.cut [1, 2, 23, 41] conf_Shift.c6)) conf_Shift.c20)) }
def conf_Shift.k20 (M : Mach) (C : Call) : Kont := execC M.j C (M.ag C) conf_Shift.c20 ({ exits := [], ret := retK conf_Shift.d } : Env) (retK conf_Shift.d)
def conf_Shift.J6 (M : Mach) (C : Call) (charge1 : Int) (t23 : Bool) (c41_0 : Int) (c41_1 : Int) (c41_2 : Int) (c41_3 : Int) (c41_4 : Int) (c41_5 : Int) (c41_6 : Int) (c41_7 : Int) (G : GH) : Option Res := M.j (execC M.j C (M.ag C) conf_Shift.c6 ({ exits := [], ret := retK conf_Shift.d } : Env) (conf_Shift.k20 M C)) [.und, .v (.c (.int .i64 charge1)), .ref 41 0, .und, .und, .und, .und, .und, .und, .und, .und, .und, .und, .und, .und, .und, .und, .und, .und, .und, .und, .und, .und, .v (.c (.bool t23)), .und, .und, .und, .und, .und, .und, .und, .und, .und, .und, .und, .und, .und, .und, .und, .und, .und, .box [.int .i64 c41_0, .int .i64 c41_1, .int .i64 c41_2, .int .i64 c41_3, .int .i64 c41_4, .int .i64 c41_5, .int .i64 c41_6, .int .i64 c41_7]] G
def conf_Shift.k18 (M : Mach) (C : Call) : Kont := execC M.j C (M.ag C) conf_Shift.c18 ({ exits := [], ret := retK conf_Shift.d } : Env) (retK conf_Shift.d)
def conf_Shift.J14 (M : Mach) (C : Call) (class6 : Int) (t39 : Bool) (G : GH) : Option Res := M.j (execC M.j C (M.ag C) conf_Shift.c14 ({ exits := [], ret := retK conf_Shift.d } : Env) (conf_Shift.k18 M C)) [.und, .und, .und, .und, .und, .und, .v (.c (.int .i64 class6)), .und, .und, .und, .und, .und, .und, .und, .und, .und, .und, .und, .und, .und, .und, .und, .und, .und, .und, .und, .und, .und, .und, .und, .und, .und, .und, .und, .und, .und, .und, .und, .und, .v (.c (.bool t39)), .und, .und] G
theorem conf_Shift.J6_eq (M : Mach) (C : Call) (charge1 : Int) (t23 : Bool) (c41_0 : Int) (c41_1 : Int) (c41_2 : Int) (c41_3 : Int) (c41_4 : Int) (c41_5 : Int) (c41_6 : Int) (c41_7 : Int) (G : GH) : conf_Shift.J6 M C charge1 t23 c41_0 c41_1 c41_2 c41_3 c41_4 c41_5 c41_6 c41_7 G = (bif t23 then some ([.c (.int .i64 0), .c (.bool false)], G) else (binD .quo .i64 charge1 c41_0).bind fun qx_2 => (C calc_Log.id [.c (.int .i64 qx_2)] G).bind fun qr_3 => (((qr_3.1[0]?).bind V1.c?).bind (Cell.asI .i64)).bind fun qx_4 => (((qr_3.1[1]?).bind V1.c?).bind Cell.asB).bind fun qb_5 => bif (!qb_5) then conf_Shift.J14 M C qx_4 true qr_3.2 else conf_Shift.J14 M C qx_4 (decide (qx_4 > c41_3)) qr_3.2) := (M.hj _ _ _).trans (by kernel_rfl)
theorem conf_Shift.J14_eq (M : Mach) (C : Call) (class6 : Int) (t39 : Bool) (G : GH) : conf_Shift.J14 M C class6 t39 G = (bif t39 then some ([.c (.int .i64 0), .c (.bool false)], G) else some ([.c (.int .i64 class6), .c (.bool true)], G)) := (M.hj _ _ _).trans (by kernel_rfl)
def conf_Shift.f (M : Mach) (C : Call) (c0_0 : Int) (c0_1 : Int) (c0_2 : Int) (c0_3 : Int) (c0_4 : Int) (c0_5 : Int) (c0_6 : Int) (c0_7 : Int) (charge1 : Int) (G : GH) : Option Res := bif decide (c0_0 < 1) then conf_Shift.J6 M C charge1 true c0_0 c0_1 c0_2 c0_3 c0_4 c0_5 c0_6 c0_7 G else bif decide (charge1 < c0_0) then conf_Shift.J6 M C charge1 true c0_0 c0_1 c0_2 c0_3 c0_4 c0_5 c0_6 c0_7 G else (binD .rem .i64 charge1 c0_0).bind fun qx_1 => conf_Shift.J6 M C charge1 (!decide (qx_1 = 0)) c0_0 c0_1 c0_2 c0_3 c0_4 c0_5 c0_6 c0_7 G
theorem conf_Shift.eq (M : Mach) (C : Call) (c0_0 : Int) (c0_1 : Int) (c0_2 : Int) (c0_3 : Int) (c0_4 : Int) (c0_5 : Int) (c0_6 : Int) (c0_7 : Int) (charge1 : Int) (G : GH) : runF M C conf_Shift.d [.agg [.int .i64 c0_0, .int .i64 c0_1, .int .i64 c0_2, .int .i64 c0_3, .int .i64 c0_4, .int .i64 c0_5, .int .i64 c0_6, .int .i64 c0_7], .c (.int .i64 charge1)] G = conf_Shift.f M C c0_0 c0_1 c0_2 c0_3 c0_4 c0_5 c0_6 c0_7 charge1 G := by kernel_rfl

/- 46 hodman/conf.within -/
def conf_within.c12 : DCode := (.cond (.t 16) (.seq (.region [⟨0, some 2, .move (.k (.c (.bool false))), none⟩]) .ret) .skip)
def conf_within.c16 : DCode := (.region [⟨0, some 17, .bin .add .i64 (.t 7) (.k (.c (.int .i64 1))), none⟩,
    ⟨1, some 7, .move (.t 17), none⟩])
def conf_within.c19 : DCode := (.seq (.region [⟨0, some 8, .cmp .lss .i64 (.t 7) (.t 6), none⟩]) (.seq (.cond (.t 8) .skip (.exit 0)) (.seq (.block 1 (.seq (.region [⟨0, some 9, .iaddr (.t 5) (.t 7) 1, none⟩,
    ⟨1, some 10, .ldG 9 (.c (.int .i64)), none⟩,
    ⟨2, some 4, .move (.t 10), none⟩]) (.seq (.region [⟨0, some 11, .move (.t 4), none⟩,
    ⟨1, some 12, .cmp .lss .i64 (.t 11) (.k (.c (.int .i64 1))), none⟩,
    ⟨2, some 13, .move (.t 12), none⟩,
    ⟨3, some 14, .move (.t 4), some (13, false)⟩,
    ⟨4, some 15, .cmp .gtr .i64 (.t 14) (.k (.c (.int .i64 65536))), some (13, false)⟩,
    ⟨5, some 16, .pick (.t 13) (.k (.c (.bool true))) (.t 15), none⟩]) (.cut [5, 6, 7, 16] conf_within.c12)))) conf_within.c16)))
def conf_within.c20 : DCode := (.loop [5, 6, 7] conf_within.c19)
def conf_within.c25 : DCode := (.seq (.region [⟨0, some 2, .move (.k (.c (.bool true))), none⟩]) .ret)
def conf_within.d : DFn := { ntmps := 18, res := [.t 2], body := (.seq (.region [⟨0, some 2, .move (.k (.c (.bool false))), none⟩]) (.seq (.seq (.region [⟨0, some 5, .move (.t 0), none⟩,
    ⟨1, some 6, .len (.t 5), none⟩,
    ⟨2, some 7, .move (.k (.c (.int .i64 0))), none⟩]) (.block 0 conf_within.c20)) conf_within.c25)) }
def conf_within.k25 (M : Mach) (C : Call) : Kont := execC M.j C (M.ag C) conf_within.c25 ({ exits := [], ret := retK conf_within.d } : Env) (retK conf_within.d)
def conf_within.e21 (M : Mach) (C : Call) : Env := { exits := (0, (conf_within.k25 M C)) :: (({ exits := [], ret := retK conf_within.d } : Env)).exits, ret := (({ exits := [], ret := retK conf_within.d } : Env)).ret }
def conf_within.L20 (M : Mach) (C : Call) (t5i : Nat) (t5o : Nat) (t5n : Nat) (t6 : Int) (t7 : Int) (G : GH) : Option Res := M.ag C [5, 6, 7] conf_within.c19 (conf_within.e21 M C) (conf_within.k25 M C) [.und, .und, .und, .und, .und, .v (.c (.sl 1 t5i t5o t5n)), .v (.c (.int .i64 t6)), .v (.c (.int .i64 t7)), .und, .und, .und, .und, .und, .und, .und, .und, .und, .und] G
def conf_within.k20 (M : Mach) (C : Call) : Kont := fun tm G => M.ag C [5, 6, 7] conf_within.c19 (conf_within.e21 M C) (conf_within.k25 M C) (restr [5, 6, 7] 0 tm) G
def conf_within.k16 (M : Mach) (C : Call) : Kont := execC M.j C (M.ag C) conf_within.c16 (conf_within.e21 M C) (conf_within.k20 M C)
def conf_within.e15 (M : Mach) (C : Call) : Env := { exits := (1, (conf_within.k16 M C)) :: ((conf_within.e21 M C)).exits, ret := ((conf_within.e21 M C)).ret }
def conf_within.J12 (M : Mach) (C : Call) (t5i : Nat) (t5o : Nat) (t5n : Nat) (t6 : Int) (t7 : Int) (t16 : Bool) (G : GH) : Option Res := M.j (execC M.j C (M.ag C) conf_within.c12 (conf_within.e15 M C) (conf_within.k16 M C)) [.und, .und, .und, .und, .und, .v (.c (.sl 1 t5i t5o t5n)), .v (.c (.int .i64 t6)), .v (.c (.int .i64 t7)), .und, .und, .und, .und, .und, .und, .und, .und, .v (.c (.bool t16)), .und] G
theorem conf_within.L20_eq (M : Mach) (C : Call) (t5i : Nat) (t5o : Nat) (t5n : Nat) (t6 : Int) (t7 : Int) (G : GH) : conf_within.L20 M C t5i t5o t5n t6 t7 G = (bif decide (t7 < t6) then guardK (decide (0 ≤ t7 ∧ t7 < ((t5n : Nat) : Int))) (((G.ld t5i (t5o + Int.toNat t7 * 1)).bind (Cell.asI .i64)).bind fun qx_1 => bif decide (qx_1 < 1) then conf_within.J12 M C t5i t5o t5n t6 t7 true G else conf_within.J12 M C t5i t5o t5n t6 t7 (decide (qx_1 > 65536)) G) else some ([.c (.bool true)], G)) := (M.hs _ _ _ _ _ _ _).trans (by kernel_rfl)
theorem conf_within.J12_eq (M : Mach) (C : Call) (t5i : Nat) (t5o : Nat) (t5n : Nat) (t6 : Int) (t7 : Int) (t16 : Bool) (G : GH) : conf_within.J12 M C t5i t5o t5n t6 t7 t16 G = (bif t16 then some ([.c (.bool false)], G) else conf_within.L20 M C t5i t5o t5n t6 (IntKind.i64.wrap (t7 + 1)) G) := (M.hj _ _ _).trans (by kernel_rfl)
def conf_within.f (M : Mach) (C : Call) (l0i : Nat) (l0o : Nat) (l0n : Nat) (G : GH) : Option Res := conf_within.L20 M C l0i l0o l0n ((l0n : Nat) : Int) 0 G
theorem conf_within.eq (M : Mach) (C : Call) (l0i : Nat) (l0o : Nat) (l0n : Nat) (G : GH) : runF M C conf_within.d [.c (.sl 1 l0i l0o l0n)] G = conf_within.f M C l0i l0o l0n G := by kernel_rfl

/- 37 hodman/calc.Log -/
def calc_Log.c6 : DCode := (.cond (.t 12) (.seq (.region [⟨0, some 2, .move (.k (.c (.int .i64 0))), none⟩,
    ⟨1, some 3, .move (.k (.c (.bool false))), none⟩]) .ret) .skip)
def calc_Log.c17 : DCode := (.seq (.seq (.region [⟨0, some 13, .move (.t 0), none⟩,
    ⟨1, some 14, .cmp .gtr .i64 (.t 13) (.k (.c (.int .i64 1))), none⟩]) (.cond (.t 14) .skip (.exit 0))) (.block 1 (.seq (.region [⟨0, some 15, .move (.t 0), none⟩,
    ⟨1, some 16, .bin .shr .i64 (.t 15) (.k (.c (.int .u64 1))), none⟩,
    ⟨2, some 0, .move (.t 16), none⟩]) (.region [⟨0, some 17, .move (.t 2), none⟩,
    ⟨1, some 18, .bin .add .i64 (.t 17) (.k (.c (.int .i64 1))), none⟩,
    ⟨2, some 2, .move (.t 18), none⟩]))))
def calc_Log.c22 : DCode := (.seq (.region [⟨0, some 19, .move (.t 2), none⟩,
    ⟨1, some 2, .move (.t 19), none⟩,
    ⟨2, some 3, .move (.k (.c (.bool true))), none⟩]) .ret)
def calc_Log.c23 : DCode := (.seq (.block 0 (.loop [0, 2] calc_Log.c17)) calc_Log.c22)
def calc_Log.d : DFn := { ntmps := 20, res := [.t 2, .t 3], body := (.seq (.region [⟨0, some 2, .move (.k (.c (.int .i64 0))), none⟩,
    ⟨1, some 3, .move (.k (.c (.bool false))), none⟩]) (.seq (.seq (.region [⟨0, some 4, .move (.t 0), none⟩,
    ⟨1, some 5, .cmp .lss .i64 (.t 4) (.k (.c (.int .i64 1))), none⟩,
    ⟨2, some 6, .move (.t 5), none⟩,
    ⟨3, some 7, .move (.t 0), some (6, false)⟩,
    ⟨4, some 8, .move (.t 0), some (6, false)⟩,
    ⟨5, some 9, .bin .sub .i64 (.t 8) (.k (.c (.int .i64 1))), some (6, false)⟩,
    ⟨6, some 10, .bin .and .i64 (.t 7) (.t 9), some (6, false)⟩,
    ⟨7, some 11, .cmp .neq .i64 (.t 10) (.k (.c (.int .i64 0))), some (6, false)⟩,
    ⟨8, some 12, .pick (.t 6) (.k (.c (.bool true))) (.t 11), none⟩]) (.cut [0, 2, 12] calc_Log.c6)) calc_Log.c23)) }
def calc_Log.k23 (M : Mach) (C : Call) : Kont := execC M.j C (M.ag C) calc_Log.c23 ({ exits := [], ret := retK calc_Log.d } : Env) (retK calc_Log.d)
def calc_Log.J6 (M : Mach) (C : Call) (v0 : Int) (n2 : Int) (t12 : Bool) (G : GH) : Option Res := M.j (execC M.j C (M.ag C) calc_Log.c6 ({ exits := [], ret := retK calc_Log.d } : Env) (calc_Log.k23 M C)) [.v (.c (.int .i64 v0)), .und, .v (.c (.int .i64 n2)), .und, .und, .und, .und, .und, .und, .und, .und, .und, .v (.c (.bool t12)), .und, .und, .und, .und, .und, .und, .und] G
def calc_Log.k22 (M : Mach) (C : Call) : Kont := execC M.j C (M.ag C) calc_Log.c22 ({ exits := [], ret := retK calc_Log.d } : Env) (retK calc_Log.d)
def calc_Log.e19 (M : Mach) (C : Call) : Env := { exits := (0, (calc_Log.k22 M C)) :: (({ exits := [], ret := retK calc_Log.d } : Env)).exits, ret := (({ exits := [], ret := retK calc_Log.d } : Env)).ret }
def calc_Log.L18 (M : Mach) (C : Call) (v0 : Int) (n2 : Int) (G : GH) : Option Res := M.ag C [0, 2] calc_Log.c17 (calc_Log.e19 M C) (calc_Log.k22 M C) [.v (.c (.int .i64 v0)), .und, .v (.c (.int .i64 n2)), .und, .und, .und, .und, .und, .und, .und, .und, .und, .und, .und, .und, .und, .und, .und, .und, .und] G
theorem calc_Log.J6_eq (M : Mach) (C : Call) (v0 : Int) (n2 : Int) (t12 : Bool) (G : GH) : calc_Log.J6 M C v0 n2 t12 G = (bif t12 then some ([.c (.int .i64 0), .c (.bool false)], G) else calc_Log.L18 M C v0 n2 G) := (M.hj _ _ _).trans (by kernel_rfl)
theorem calc_Log.L18_eq (M : Mach) (C : Call) (v0 : Int) (n2 : Int) (G : GH) : calc_Log.L18 M C v0 n2 G = (bif decide (v0 > 1) then calc_Log.L18 M C (Int.fdiv v0 (2 ^ (min (1 : Int).toNat IntKind.i64.bits))) (IntKind.i64.wrap (n2 + 1)) G else some ([.c (.int .i64 n2), .c (.bool true)], G)) := (M.hs _ _ _ _ _ _ _).trans (by kernel_rfl)
def calc_Log.f (M : Mach) (C : Call) (v0 : Int) (G : GH) : Option Res := bif decide (v0 < 1) then calc_Log.J6 M C v0 0 true G else calc_Log.J6 M C v0 0 (!decide (IntKind.i64.wrap (((BitVec.ofInt IntKind.i64.bits v0) &&& (BitVec.ofInt IntKind.i64.bits (IntKind.i64.wrap (v0 - 1)))).toNat : Int) = 0)) G
theorem calc_Log.eq (M : Mach) (C : Call) (v0 : Int) (G : GH) : runF M C calc_Log.d [.c (.int .i64 v0)] G = calc_Log.f M C v0 G := by kernel_rfl

/- 38 hodman/calc.Up -/
def calc_Up.c6 : DCode := (.cond (.t 10) (.seq (.region [⟨0, some 2, .move (.k (.c (.int .i64 0))), none⟩,
    ⟨1, some 3, .move (.k (.c (.bool false))), none⟩]) .ret) .skip)
def calc_Up.c16 : DCode := (.seq (.seq (.region [⟨0, some 11, .move (.t 4), none⟩,
    ⟨1, some 12, .move (.t 0), none⟩,
    ⟨2, some 13, .cmp .lss .i64 (.t 11) (.t 12), none⟩]) (.cond (.t 13) .skip (.exit 0))) (.block 1 (.region [⟨0, some 14, .move (.t 4), none⟩,
    ⟨1, some 15, .bin .shl .i64 (.t 14) (.k (.c (.int .u64 1))), none⟩,
    ⟨2, some 4, .move (.t 15), none⟩])))
def calc_Up.c21 : DCode := (.seq (.region [⟨0, some 16, .move (.t 4), none⟩,
    ⟨1, some 2, .move (.t 16), none⟩,
    ⟨2, some 3, .move (.k (.c (.bool true))), none⟩]) .ret)
def calc_Up.c23 : DCode := (.seq (.region [⟨0, some 4, .move (.k (.c (.int .i64 1))), none⟩]) (.seq (.block 0 (.loop [0, 4] calc_Up.c16)) calc_Up.c21))
def calc_Up.d : DFn := { ntmps := 17, res := [.t 2, .t 3], body := (.seq (.region [⟨0, some 2, .move (.k (.c (.int .i64 0))), none⟩,
    ⟨1, some 3, .move (.k (.c (.bool false))), none⟩]) (.seq (.seq (.region [⟨0, some 5, .move (.t 0), none⟩,
    ⟨1, some 6, .cmp .lss .i64 (.t 5) (.k (.c (.int .i64 1))), none⟩,
    ⟨2, some 7, .move (.t 6), none⟩,
    ⟨3, some 8, .move (.t 0), some (7, false)⟩,
    ⟨4, some 9, .cmp .gtr .i64 (.t 8) (.k (.c (.int .i64 4611686018427387904))), some (7, false)⟩,
    ⟨5, some 10, .pick (.t 7) (.k (.c (.bool true))) (.t 9), none⟩]) (.cut [0, 10] calc_Up.c6)) calc_Up.c23)) }
def calc_Up.k23 (M : Mach) (C : Call) : Kont := execC M.j C (M.ag C) calc_Up.c23 ({ exits := [], ret := retK calc_Up.d } : Env) (retK calc_Up.d)
def calc_Up.J6 (M : Mach) (C : Call) (v0 : Int) (t10 : Bool) (G : GH) : Option Res := M.j (execC M.j C (M.ag C) calc_Up.c6 ({ exits := [], ret := retK calc_Up.d } : Env) (calc_Up.k23 M C)) [.v (.c (.int .i64 v0)), .und, .und, .und, .und, .und, .und, .und, .und, .und, .v (.c (.bool t10)), .und, .und, .und, .und, .und, .und] G
def calc_Up.k21 (M : Mach) (C : Call) : Kont := execC M.j C (M.ag C) calc_Up.c21 ({ exits := [], ret := retK calc_Up.d } : Env) (retK calc_Up.d)
def calc_Up.e18 (M : Mach) (C : Call) : Env := { exits := (0, (calc_Up.k21 M C)) :: (({ exits := [], ret := retK calc_Up.d } : Env)).exits, ret := (({ exits := [], ret := retK calc_Up.d } : Env)).ret }
def calc_Up.L17 (M : Mach) (C : Call) (v0 : Int) (p4 : Int) (G : GH) : Option Res := M.ag C [0, 4] calc_Up.c16 (calc_Up.e18 M C) (calc_Up.k21 M C) [.v (.c (.int .i64 v0)), .und, .und, .und, .v (.c (.int .i64 p4)), .und, .und, .und, .und, .und, .und, .und, .und, .und, .und, .und, .und] G
theorem calc_Up.J6_eq (M : Mach) (C : Call) (v0 : Int) (t10 : Bool) (G : GH) : calc_Up.J6 M C v0 t10 G = (bif t10 then some ([.c (.int .i64 0), .c (.bool false)], G) else calc_Up.L17 M C v0 1 G) := (M.hj _ _ _).trans (by kernel_rfl)
theorem calc_Up.L17_eq (M : Mach) (C : Call) (v0 : Int) (p4 : Int) (G : GH) : calc_Up.L17 M C v0 p4 G = (bif decide (p4 < v0) then calc_Up.L17 M C v0 (IntKind.i64.wrap (p4 * 2 ^ (min (1 : Int).toNat IntKind.i64.bits))) G else some ([.c (.int .i64 p4), .c (.bool true)], G)) := (M.hs _ _ _ _ _ _ _).trans (by kernel_rfl)
def calc_Up.f (M : Mach) (C : Call) (v0 : Int) (G : GH) : Option Res := bif decide (v0 < 1) then calc_Up.J6 M C v0 true G else calc_Up.J6 M C v0 (decide (v0 > 4611686018427387904)) G
theorem calc_Up.eq (M : Mach) (C : Call) (v0 : Int) (G : GH) : runF M C calc_Up.d [.c (.int .i64 v0)] G = calc_Up.f M C v0 G := by kernel_rfl

/- 28 hodman/conf.Ceil -/
def conf_Ceil.c6 : DCode := (.cond (.t 12) (.seq (.region [⟨0, some 4, .move (.k (.c (.int .i64 0))), none⟩]) .ret) .skip)
def conf_Ceil.c10 : DCode := (.seq (.region [⟨0, some 13, .faddr 2 2, none⟩,
    ⟨1, some 14, .ldL 13 21 (.c (.int .i64)), none⟩,
    ⟨2, some 15, .move (.t 1), none⟩,
    ⟨3, some 16, .faddr 2 2, none⟩,
    ⟨4, some 17, .ldL 16 21 (.c (.int .i64)), none⟩,
    ⟨5, some 18, .bin .shr .i64 (.t 17) (.k (.c (.int .u64 1))), none⟩,
    ⟨6, some 19, .bin .mul .i64 (.t 15) (.t 18), none⟩,
    ⟨7, some 20, .bin .add .i64 (.t 14) (.t 19), none⟩,
    ⟨8, some 4, .move (.t 20), none⟩]) .ret)
def conf_Ceil.d : DFn := { ntmps := 22, res := [.t 4], body := (.seq (.region [⟨0, some 2, .boxv 21 [9, 13, 16] (.t 0) 8, none⟩,
    ⟨1, some 4, .move (.k (.c (.int .i64 0))), none⟩]) (.seq (.seq (.region [⟨0, some 5, .move (.t 1), none⟩,
    ⟨1, some 6, .cmp .lss .i64 (.t 5) (.k (.c (.int .i64 0))), none⟩,
    ⟨2, some 7, .move (.t 6), none⟩,
    ⟨3, some 8, .move (.t 1), some (7, false)⟩,
    ⟨4, some 9, .faddr 2 3, some (7, false)⟩,
    ⟨5, some 10, .ldL 9 21 (.c (.int .i64)), some (7, false)⟩,
    ⟨6, some 11, .cmp .gtr .i64 (.t 8) (.t 10), some (7, false)⟩,
    ⟨7, some 12, .pick (.t 7) (.k (.c (.bool true))) (.t 11), none⟩]) (.cut [1, 2, 12, 21] conf_Ceil.c6)) conf_Ceil.c10)) }
def conf_Ceil.k10 (M : Mach) (C : Call) : Kont := execC M.j C (M.ag C) conf_Ceil.c10 ({ exits := [], ret := retK conf_Ceil.d } : Env) (retK conf_Ceil.d)
def conf_Ceil.J6 (M : Mach) (C : Call) (class1 : Int) (t12 : Bool) (c21_0 : Int) (c21_1 : Int) (c21_2 : Int) (c21_3 : Int) (c21_4 : Int) (c21_5 : Int) (c21_6 : Int) (c21_7 : Int) (G : GH) : Option Res := M.j (execC M.j C (M.ag C) conf_Ceil.c6 ({ exits := [], ret := retK conf_Ceil.d } : Env) (conf_Ceil.k10 M C)) [.und, .v (.c (.int .i64 class1)), .ref 21 0, .und, .und, .und, .und, .und, .und, .und, .und, .und, .v (.c (.bool t12)), .und, .und, .und, .und, .und, .und, .und, .und, .box [.int .i64 c21_0, .int .i64 c21_1, .int .i64 c21_2, .int .i64 c21_3, .int .i64 c21_4, .int .i64 c21_5, .int .i64 c21_6, .int .i64 c21_7]] G
theorem conf_Ceil.J6_eq (M : Mach) (C : Call) (class1 : Int) (t12 : Bool) (c21_0 : Int) (c21_1 : Int) (c21_2 : Int) (c21_3 : Int) (c21_4 : Int) (c21_5 : Int) (c21_6 : Int) (c21_7 : Int) (G : GH) : conf_Ceil.J6 M C class1 t12 c21_0 c21_1 c21_2 c21_3 c21_4 c21_5 c21_6 c21_7 G = (bif t12 then some ([.c (.int .i64 0)], G) else some ([.c (.int .i64 (IntKind.i64.wrap (c21_2 + (IntKind.i64.wrap (class1 * (Int.fdiv c21_2 (2 ^ (min (1 : Int).toNat IntKind.i64.bits))))))))], G)) := (M.hj _ _ _).trans (by kernel_rfl)
def conf_Ceil.f (M : Mach) (C : Call) (c0_0 : Int) (c0_1 : Int) (c0_2 : Int) (c0_3 : Int) (c0_4 : Int) (c0_5 : Int) (c0_6 : Int) (c0_7 : Int) (class1 : Int) (G : GH) : Option Res := bif decide (class1 < 0) then conf_Ceil.J6 M C class1 true c0_0 c0_1 c0_2 c0_3 c0_4 c0_5 c0_6 c0_7 G else conf_Ceil.J6 M C class1 (decide (class1 > c0_3)) c0_0 c0_1 c0_2 c0_3 c0_4 c0_5 c0_6 c0_7 G
theorem conf_Ceil.eq (M : Mach) (C : Call) (c0_0 : Int) (c0_1 : Int) (c0_2 : Int) (c0_3 : Int) (c0_4 : Int) (c0_5 : Int) (c0_6 : Int) (c0_7 : Int) (class1 : Int) (G : GH) : runF M C conf_Ceil.d [.agg [.int .i64 c0_0, .int .i64 c0_1, .int .i64 c0_2, .int .i64 c0_3, .int .i64 c0_4, .int .i64 c0_5, .int .i64 c0_6, .int .i64 c0_7], .c (.int .i64 class1)] G = conf_Ceil.f M C c0_0 c0_1 c0_2 c0_3 c0_4 c0_5 c0_6 c0_7 class1 G := by kernel_rfl

/- 47 hodman/calc.Round -/
def calc_Round.c6 : DCode := (.cond (.t 12) (.seq (.region [⟨0, some 4, .move (.k (.c (.int .i64 0))), none⟩,
    ⟨1, some 5, .move (.k (.c (.bool false))), none⟩]) .ret) .skip)
def calc_Round.c20 : DCode := (.seq (.region [⟨0, some 13, .move (.t 0), none⟩,
    ⟨1, some 14, .move (.t 1), none⟩,
    ⟨2, some 15, .bin .rem .i64 (.t 13) (.t 14), none⟩,
    ⟨3, some 6, .move (.t 15), none⟩]) (.seq (.seq (.region [⟨0, some 16, .move (.t 6), none⟩,
    ⟨1, some 17, .cmp .eql .i64 (.t 16) (.k (.c (.int .i64 0))), none⟩]) (.cond (.t 17) (.seq (.region [⟨0, some 18, .move (.t 0), none⟩,
    ⟨1, some 4, .move (.t 18), none⟩,
    ⟨2, some 5, .move (.k (.c (.bool true))), none⟩]) .ret) .skip)) (.seq (.region [⟨0, some 19, .move (.t 0), none⟩,
    ⟨1, some 20, .move (.t 1), none⟩,
    ⟨2, some 21, .move (.t 6), none⟩,
    ⟨3, some 22, .bin .sub .i64 (.t 20) (.t 21), none⟩,
    ⟨4, some 23, .call 48 [.t 19, .t 22] [.c (.int .i64), .c (.bool)], none⟩,
    ⟨5, some 24, .ext 23 0, none⟩,
    ⟨6, some 25, .ext 23 1, none⟩,
    ⟨7, some 4, .move (.t 24), none⟩,
    ⟨8, some 5, .move (.t 25), none⟩]) .ret)))
def calc_Round.d : DFn := { ntmps := 26, res := [.t 4, .t 5], body := (.seq (.region [⟨0, some 4, .move (.k (.c (.int .i64 0))), none⟩,
    ⟨1, some 5, .move (.k (.c (.bool false))), none⟩]) (.seq (.seq (.region [⟨0, some 7, .move (.t 0), none⟩,
    ⟨1, some 8, .cmp .lss .i64 (.t 7) (.k (.c (.int .i64 0))), none⟩,
    ⟨2, some 9, .move (.t 8), none⟩,
    ⟨3, some 10, .move (.t 1), some (9, false)⟩,
    ⟨4, some 11, .cmp .lss .i64 (.t 10) (.k (.c (.int .i64 1))), some (9, false)⟩,
    ⟨5, some 12, .pick (.t 9) (.k (.c (.bool true))) (.t 11), none⟩]) (.cut [0, 1, 12] calc_Round.c6)) calc_Round.c20)) }
def calc_Round.k20 (M : Mach) (C : Call) : Kont := execC M.j C (M.ag C) calc_Round.c20 ({ exits := [], ret := retK calc_Round.d } : Env) (retK calc_Round.d)
def calc_Round.J6 (M : Mach) (C : Call) (v0 : Int) (to1 : Int) (t12 : Bool) (G : GH) : Option Res := M.j (execC M.j C (M.ag C) calc_Round.c6 ({ exits := [], ret := retK calc_Round.d } : Env) (calc_Round.k20 M C)) [.v (.c (.int .i64 v0)), .v (.c (.int .i64 to1)), .und, .und, .und, .und, .und, .und, .und, .und, .und, .und, .v (.c (.bool t12)), .und, .und, .und, .und, .und, .und, .und, .und, .und, .und, .und, .und, .und] G
theorem calc_Round.J6_eq (M : Mach) (C : Call) (v0 : Int) (to1 : Int) (t12 : Bool) (G : GH) : calc_Round.J6 M C v0 to1 t12 G = (bif t12 then some ([.c (.int .i64 0), .c (.bool false)], G) else (binD .rem .i64 v0 to1).bind fun qx_1 => bif decide (qx_1 = 0) then some ([.c (.int .i64 v0), .c (.bool true)], G) else (C calc_Add.id [.c (.int .i64 v0), .c (.int .i64 (IntKind.i64.wrap (to1 - qx_1)))] G).bind fun qr_2 => (((qr_2.1[0]?).bind V1.c?).bind (Cell.asI .i64)).bind fun qx_3 => (((qr_2.1[1]?).bind V1.c?).bind Cell.asB).bind fun qb_4 => some ([.c (.int .i64 qx_3), .c (.bool qb_4)], qr_2.2)) := (M.hj _ _ _).trans (by kernel_rfl)
def calc_Round.f (M : Mach) (C : Call) (v0 : Int) (to1 : Int) (G : GH) : Option Res := bif decide (v0 < 0) then calc_Round.J6 M C v0 to1 true G else calc_Round.J6 M C v0 to1 (decide (to1 < 1)) G
theorem calc_Round.eq (M : Mach) (C : Call) (v0 : Int) (to1 : Int) (G : GH) : runF M C calc_Round.d [.c (.int .i64 v0), .c (.int .i64 to1)] G = calc_Round.f M C v0 to1 G := by kernel_rfl

/- 48 hodman/calc.Add -/
def calc_Add.d : DFn := { ntmps := 22, res := [.t 4, .t 5], body := (.seq (.region [⟨0, some 4, .move (.k (.c (.int .i64 0))), none⟩,
    ⟨1, some 5, .move (.k (.c (.bool false))), none⟩]) (.seq (.region [⟨0, some 7, .move (.t 0), none⟩,
    ⟨1, some 8, .conv .u64 (.t 7), none⟩,
    ⟨2, some 9, .move (.t 1), none⟩,
    ⟨3, some 10, .conv .u64 (.t 9), none⟩,
    ⟨4, some 11, .bin .add .u64 (.t 8) (.t 10), none⟩,
    ⟨5, some 12, .conv .i64 (.t 11), none⟩,
    ⟨6, some 6, .move (.t 12), none⟩]) (.seq (.seq (.region [⟨0, some 13, .move (.t 0), none⟩,
    ⟨1, some 14, .move (.t 6), none⟩,
    ⟨2, some 15, .bin .xor .i64 (.t 13) (.t 14), none⟩,
    ⟨3, some 16, .move (.t 1), none⟩,
    ⟨4, some 17, .move (.t 6), none⟩,
    ⟨5, some 18, .bin .xor .i64 (.t 16) (.t 17), none⟩,
    ⟨6, some 19, .bin .and .i64 (.t 15) (.t 18), none⟩,
    ⟨7, some 20, .cmp .lss .i64 (.t 19) (.k (.c (.int .i64 0))), none⟩]) (.cond (.t 20) (.seq (.region [⟨0, some 4, .move (.k (.c (.int .i64 0))), none⟩,
    ⟨1, some 5, .move (.k (.c (.bool false))), none⟩]) .ret) .skip)) (.seq (.region [⟨0, some 21, .move (.t 6), none⟩,
    ⟨1, some 4, .move (.t 21), none⟩,
    ⟨2, some 5, .move (.k (.c (.bool true))), none⟩]) .ret)))) }
def calc_Add.f (M : Mach) (C : Call) (a0 : Int) (b1 : Int) (G : GH) : Option Res := bif decide (IntKind.i64.wrap (((BitVec.ofInt IntKind.i64.bits (IntKind.i64.wrap (((BitVec.ofInt IntKind.i64.bits a0) ^^^ (BitVec.ofInt IntKind.i64.bits (IntKind.i64.wrap (IntKind.u64.wrap ((IntKind.u64.wrap a0) + (IntKind.u64.wrap b1)))))).toNat : Int))) &&& (BitVec.ofInt IntKind.i64.bits (IntKind.i64.wrap (((BitVec.ofInt IntKind.i64.bits b1) ^^^ (BitVec.ofInt IntKind.i64.bits (IntKind.i64.wrap (IntKind.u64.wrap ((IntKind.u64.wrap a0) + (IntKind.u64.wrap b1)))))).toNat : Int)))).toNat : Int) < 0) then some ([.c (.int .i64 0), .c (.bool false)], G) else some ([.c (.int .i64 (IntKind.i64.wrap (IntKind.u64.wrap ((IntKind.u64.wrap a0) + (IntKind.u64.wrap b1))))), .c (.bool true)], G)
theorem calc_Add.eq (M : Mach) (C : Call) (a0 : Int) (b1 : Int) (G : GH) : runF M C calc_Add.d [.c (.int .i64 a0), .c (.int .i64 b1)] G = calc_Add.f M C a0 b1 G := by kernel_rfl
end Go.Proofs.D
