/- Texts of the proof (T0); no condition. -/
import Derived.Test.YtdanddamihficaaFairLessa
import Derived.KernelRfl
set_option linter.unusedSimpArgs false
set_option linter.unusedVariables false
set_option linter.unusedVariables false
set_option maxRecDepth 100000
namespace Go.Proofs.D
open Go
/- 16 hodman/hodmanlaw23.Client -/
def hodmanlaw23_Client.c10 : DCode := (.cond (.t 30) .skip (.exit 0))
def hodmanlaw23_Client.c24 : DCode := (.cond (.t 64) (.region [⟨0, some 16, .move (.k (.c (.int .i64 15))), none⟩]) .skip)
def hodmanlaw23_Client.c74 : DCode := (.region [⟨0, some 162, .move (.t 19), none⟩,
    ⟨1, some 163, .bin .add .i64 (.t 162) (.k (.c (.int .i64 1))), none⟩,
    ⟨2, some 19, .move (.t 163), none⟩])
def hodmanlaw23_Client.c76 : DCode := (.seq (.seq (.region [⟨0, some 158, .move (.t 19), none⟩,
    ⟨1, some 159, .move (.t 9), none⟩,
    ⟨2, some 160, .len (.t 159), none⟩,
    ⟨3, some 161, .cmp .lss .i64 (.t 158) (.t 160), none⟩]) (.cond (.t 161) .skip (.exit 3))) (.seq (.block 4 (.seq (.region [⟨0, some 164, .move (.t 9), none⟩,
    ⟨1, some 165, .move (.t 19), none⟩,
    ⟨2, some 166, .iaddr (.t 164) (.t 165) 1, none⟩,
    ⟨3, some 167, .ldG 166 (.c (.int .i64)), none⟩,
    ⟨4, some 168, .move (.t 14), none⟩,
    ⟨5, some 169, .cmp .neq .i64 (.t 167) (.t 168), none⟩]) (.cond (.t 169) (.region [⟨0, some 170, .move (.t 18), none⟩,
    ⟨1, some 171, .move (.t 9), none⟩,
    ⟨2, some 172, .move (.t 19), none⟩,
    ⟨3, some 173, .iaddr (.t 171) (.t 172) 1, none⟩,
    ⟨4, some 174, .ldG 173 (.c (.int .i64)), none⟩,
    ⟨5, some 175, .bslice 1 1 [.int .i64 0] [(0, 1, .t 174)], none⟩,
    ⟨6, some 176, .app (.t 170) (.t 175) 1 8, none⟩,
    ⟨7, some 18, .move (.t 176), none⟩]) .skip))) (.cut [2, 3, 7, 8, 9, 10, 11, 12, 13, 14, 17, 18, 19, 202, 203] hodmanlaw23_Client.c74)))
def hodmanlaw23_Client.c77 : DCode := (.loop [2, 3, 7, 8, 9, 10, 11, 12, 13, 14, 17, 18, 19, 202, 203] hodmanlaw23_Client.c76)
def hodmanlaw23_Client.c80 : DCode := (.region [⟨0, some 177, .move (.t 18), none⟩,
    ⟨1, some 9, .move (.t 177), none⟩])
def hodmanlaw23_Client.c85 : DCode := (.cond (.t 152) (.seq (.region [⟨0, some 153, .move (.t 11), none⟩,
    ⟨1, some 154, .move (.t 10), none⟩,
    ⟨2, some 155, .move (.t 14), none⟩,
    ⟨3, some 156, .lkup (.c (.int .i64)) (.t 154) (.t 155) (.c (.int .i64 0)) (.c (.int .i64)) false, none⟩,
    ⟨4, some 157, .bin .sub .i64 (.t 153) (.t 156), none⟩,
    ⟨5, some 11, .move (.t 157), none⟩]) (.seq (.region [⟨0, some 18, .move (.k (.c (.sl 1 0 0 0))), none⟩]) (.seq (.seq (.region [⟨0, some 19, .move (.k (.c (.int .i64 0))), none⟩]) (.block 3 hodmanlaw23_Client.c77)) hodmanlaw23_Client.c80))) .skip)
def hodmanlaw23_Client.c92 : DCode := (.cond (.t 190) (.seq (.region [⟨0, some 191, .move (.t 9), none⟩,
    ⟨1, some 192, .move (.t 12), none⟩,
    ⟨2, some 193, .bslice 1 1 [.int .i64 0] [(0, 1, .t 192)], none⟩,
    ⟨3, some 194, .app (.t 191) (.t 193) 1 8, none⟩,
    ⟨4, some 195, .move (.t 11), none⟩,
    ⟨5, some 196, .move (.t 17), none⟩,
    ⟨6, some 197, .bin .add .i64 (.t 195) (.t 196), none⟩,
    ⟨7, some 9, .move (.t 194), none⟩,
    ⟨8, some 11, .move (.t 197), none⟩]) (.region [⟨0, some 198, .move (.t 10), none⟩,
    ⟨1, some 199, .move (.t 12), none⟩,
    ⟨2, some 200, .move (.t 17), none⟩,
    ⟨3, none, .mupd (.c (.int .i64)) (.t 198) (.t 199) (.t 200), none⟩])) .skip)
def hodmanlaw23_Client.c93 : DCode := (.seq (.region [⟨0, some 178, .faddr 13 0, none⟩,
    ⟨1, some 179, .ldL 178 203 (.c (.int .i64)), none⟩,
    ⟨2, some 180, .cmp .eql .i64 (.t 179) (.k (.c (.int .i64 1))), none⟩,
    ⟨3, some 181, .move (.t 180), none⟩,
    ⟨4, some 182, .faddr 13 0, some (181, false)⟩,
    ⟨5, some 183, .ldL 182 203 (.c (.int .i64)), some (181, false)⟩,
    ⟨6, some 184, .cmp .eql .i64 (.t 183) (.k (.c (.int .i64 2))), some (181, false)⟩,
    ⟨7, some 185, .pick (.t 181) (.k (.c (.bool true))) (.t 184), none⟩,
    ⟨8, some 186, .move (.t 185), none⟩,
    ⟨9, some 187, .faddr 13 0, some (186, false)⟩,
    ⟨10, some 188, .ldL 187 203 (.c (.int .i64)), some (186, false)⟩,
    ⟨11, some 189, .cmp .eql .i64 (.t 188) (.k (.c (.int .i64 4))), some (186, false)⟩,
    ⟨12, some 190, .pick (.t 186) (.k (.c (.bool true))) (.t 189), none⟩]) (.cut [2, 3, 7, 8, 9, 10, 11, 12, 17, 190, 202] hodmanlaw23_Client.c92))
def hodmanlaw23_Client.c95 : DCode := (.seq (.region [⟨0, some 141, .move (.t 8), none⟩,
    ⟨1, some 142, .ldL 13 203 (.agg [.int .i64, .int .i64, .int .i64, .int .i64, .int .i64, .int .u8]), none⟩,
    ⟨2, some 143, .bslice 1 6 [.int .i64 0, .int .i64 0, .int .i64 0, .int .i64 0, .int .i64 0, .int .u8 0] [(0, 6, .t 142)], none⟩,
    ⟨3, some 144, .app (.t 141) (.t 143) 6 48, none⟩,
    ⟨4, some 8, .move (.t 144), none⟩]) (.seq (.seq (.region [⟨0, some 145, .faddr 13 0, none⟩,
    ⟨1, some 146, .ldL 145 203 (.c (.int .i64)), none⟩,
    ⟨2, some 147, .cmp .eql .i64 (.t 146) (.k (.c (.int .i64 5))), none⟩,
    ⟨3, some 148, .move (.t 147), none⟩,
    ⟨4, some 149, .faddr 13 0, some (148, false)⟩,
    ⟨5, some 150, .ldL 149 203 (.c (.int .i64)), some (148, false)⟩,
    ⟨6, some 151, .cmp .eql .i64 (.t 150) (.k (.c (.int .i64 4))), some (148, false)⟩,
    ⟨7, some 152, .pick (.t 148) (.k (.c (.bool true))) (.t 151), none⟩]) (.cut [2, 3, 7, 8, 9, 10, 11, 12, 13, 14, 17, 152, 202, 203] hodmanlaw23_Client.c85)) (.cut [2, 3, 7, 8, 9, 10, 11, 12, 13, 17, 202, 203] hodmanlaw23_Client.c93)))
def hodmanlaw23_Client.c96 : DCode := (.seq (.block 2 (.seq (.region [⟨0, some 88, .move (.t 16), none⟩,
    ⟨1, some 89, .cmp .lss .i64 (.t 88) (.k (.c (.int .i64 7))), none⟩,
    ⟨2, some 87, .move (.t 89), none⟩]) (.cond (.t 87) (.region [⟨0, some 90, .move (.t 17), none⟩,
    ⟨1, some 91, .faddr 13 2, none⟩,
    ⟨2, none, .stL 91 203 (.t 90) 1, none⟩]) (.seq (.region [⟨0, some 93, .move (.t 16), none⟩,
    ⟨1, some 94, .cmp .eql .i64 (.t 93) (.k (.c (.int .i64 7))), none⟩,
    ⟨2, some 92, .move (.t 94), none⟩]) (.cond (.t 92) (.region [⟨0, some 95, .move (.t 17), none⟩,
    ⟨1, some 96, .faddr 13 0, none⟩,
    ⟨2, none, .stL 96 203 (.k (.c (.int .i64 2))) 1, none⟩,
    ⟨3, some 97, .faddr 13 4, none⟩,
    ⟨4, none, .stL 97 203 (.k (.c (.int .i64 1))) 1, none⟩,
    ⟨5, some 98, .faddr 13 2, none⟩,
    ⟨6, none, .stL 98 203 (.t 95) 1, none⟩]) (.seq (.region [⟨0, some 100, .move (.t 16), none⟩,
    ⟨1, some 101, .cmp .lss .i64 (.t 100) (.k (.c (.int .i64 10))), none⟩,
    ⟨2, some 99, .move (.t 101), none⟩]) (.cond (.t 99) (.region [⟨0, some 102, .move (.t 14), none⟩,
    ⟨1, some 103, .move (.t 17), none⟩,
    ⟨2, some 104, .faddr 13 0, none⟩,
    ⟨3, none, .stL 104 203 (.k (.c (.int .i64 4))) 1, none⟩,
    ⟨4, some 105, .faddr 13 1, none⟩,
    ⟨5, none, .stL 105 203 (.t 102) 1, none⟩,
    ⟨6, some 106, .faddr 13 2, none⟩,
    ⟨7, none, .stL 106 203 (.t 103) 1, none⟩]) (.seq (.region [⟨0, some 108, .move (.t 16), none⟩,
    ⟨1, some 109, .cmp .lss .i64 (.t 108) (.k (.c (.int .i64 13))), none⟩,
    ⟨2, some 107, .move (.t 109), none⟩]) (.cond (.t 107) (.region [⟨0, some 110, .move (.t 14), none⟩,
    ⟨1, some 111, .faddr 13 0, none⟩,
    ⟨2, none, .stL 111 203 (.k (.c (.int .i64 5))) 1, none⟩,
    ⟨3, some 112, .faddr 13 1, none⟩,
    ⟨4, none, .stL 112 203 (.t 110) 1, none⟩]) (.seq (.region [⟨0, some 114, .move (.t 16), none⟩,
    ⟨1, some 115, .cmp .eql .i64 (.t 114) (.k (.c (.int .i64 13))), none⟩,
    ⟨2, some 113, .move (.t 115), none⟩]) (.cond (.t 113) (.region [⟨0, some 116, .move (.t 14), none⟩,
    ⟨1, some 117, .move (.t 7), none⟩,
    ⟨2, some 118, .move (.t 10), none⟩,
    ⟨3, some 119, .move (.t 14), none⟩,
    ⟨4, some 120, .lkup (.c (.int .i64)) (.t 118) (.t 119) (.c (.int .i64 0)) (.c (.int .i64)) false, none⟩,
    ⟨5, some 121, .call 28 [.t 117, .t 120] [.c (.int .i64)], none⟩,
    ⟨6, some 122, .faddr 13 0, none⟩,
    ⟨7, none, .stL 122 203 (.k (.c (.int .i64 7))) 1, none⟩,
    ⟨8, some 123, .faddr 13 1, none⟩,
    ⟨9, none, .stL 123 203 (.t 116) 1, none⟩,
    ⟨10, some 124, .faddr 13 4, none⟩,
    ⟨11, none, .stL 124 203 (.t 121) 1, none⟩]) (.seq (.region [⟨0, some 126, .move (.t 16), none⟩,
    ⟨1, some 127, .cmp .eql .i64 (.t 126) (.k (.c (.int .i64 14))), none⟩,
    ⟨2, some 125, .move (.t 127), none⟩]) (.cond (.t 125) (.region [⟨0, some 128, .move (.t 14), none⟩,
    ⟨1, some 129, .move (.t 7), none⟩,
    ⟨2, some 130, .move (.t 10), none⟩,
    ⟨3, some 131, .move (.t 14), none⟩,
    ⟨4, some 132, .lkup (.c (.int .i64)) (.t 130) (.t 131) (.c (.int .i64 0)) (.c (.int .i64)) false, none⟩,
    ⟨5, some 133, .call 28 [.t 129, .t 132] [.c (.int .i64)], none⟩,
    ⟨6, some 134, .move (.t 7), none⟩,
    ⟨7, some 135, .call 28 [.t 134, .k (.c (.int .i64 256))] [.c (.int .i64)], none⟩,
    ⟨8, some 136, .conv .u8 (.t 135), none⟩,
    ⟨9, some 137, .faddr 13 0, none⟩,
    ⟨10, none, .stL 137 203 (.k (.c (.int .i64 8))) 1, none⟩,
    ⟨11, some 138, .faddr 13 1, none⟩,
    ⟨12, none, .stL 138 203 (.t 128) 1, none⟩,
    ⟨13, some 139, .faddr 13 4, none⟩,
    ⟨14, none, .stL 139 203 (.t 133) 1, none⟩,
    ⟨15, some 140, .faddr 13 5, none⟩,
    ⟨16, none, .stL 140 203 (.t 136) 1, none⟩]) (.region [⟨0, some 83, .move (.t 7), none⟩,
    ⟨1, some 84, .call 28 [.t 83, .k (.c (.int .i64 2))] [.c (.int .i64)], none⟩,
    ⟨2, some 85, .bin .add .i64 (.k (.c (.int .i64 9))) (.t 84), none⟩,
    ⟨3, some 86, .faddr 13 0, none⟩,
    ⟨4, none, .stL 86 203 (.t 85) 1, none⟩])))))))))))))) (.cut [2, 3, 7, 8, 9, 10, 11, 12, 13, 14, 17, 202, 203] hodmanlaw23_Client.c95))
def hodmanlaw23_Client.c98 : DCode := (.seq (.region [⟨0, some 65, .move (.t 7), none⟩,
    ⟨1, some 66, .faddr 3 1, none⟩,
    ⟨2, some 67, .ldL 66 202 (.c (.int .i64)), none⟩,
    ⟨3, some 68, .move (.t 15), none⟩,
    ⟨4, some 69, .mx (.t 68) [.k (.c (.int .i64 1))], none⟩,
    ⟨5, some 70, .mn (.t 67) [.t 69], none⟩,
    ⟨6, some 71, .mx (.k (.c (.int .i64 1))) [.t 70], none⟩,
    ⟨7, some 72, .call 28 [.t 65, .t 71] [.c (.int .i64)], none⟩,
    ⟨8, some 73, .bin .add .i64 (.k (.c (.int .i64 1))) (.t 72), none⟩,
    ⟨9, some 17, .move (.t 73), none⟩]) (.seq (.seq (.region [⟨0, some 74, .move (.t 17), none⟩,
    ⟨1, some 75, .bin .mul .i64 (.k (.c (.int .i64 2))) (.t 74), none⟩,
    ⟨2, some 76, .faddr 3 0, none⟩,
    ⟨3, some 77, .ldL 76 202 (.c (.int .i64)), none⟩,
    ⟨4, some 78, .cmp .lss .i64 (.t 75) (.t 77), none⟩]) (.cond (.t 78) (.region [⟨0, some 79, .faddr 3 0, none⟩,
    ⟨1, some 80, .ldL 79 202 (.c (.int .i64)), none⟩,
    ⟨2, some 81, .bin .add .i64 (.t 80) (.k (.c (.int .i64 1))), none⟩,
    ⟨3, some 82, .bin .quo .i64 (.t 81) (.k (.c (.int .i64 2))), none⟩,
    ⟨4, some 17, .move (.t 82), none⟩]) .skip)) (.cut [2, 3, 7, 8, 9, 10, 11, 12, 13, 14, 16, 17, 202, 203] hodmanlaw23_Client.c96)))
def hodmanlaw23_Client.c101 : DCode := (.seq (.region [⟨0, some 44, .faddr 3 2, none⟩,
    ⟨1, some 45, .ldL 44 202 (.c (.int .i64)), none⟩,
    ⟨2, some 46, .bin .quo .i64 (.t 45) (.k (.c (.int .i64 2))), none⟩,
    ⟨3, some 47, .move (.t 11), none⟩,
    ⟨4, some 48, .bin .sub .i64 (.t 46) (.t 47), none⟩,
    ⟨5, some 15, .move (.t 48), none⟩]) (.seq (.region [⟨0, some 49, .move (.t 7), none⟩,
    ⟨1, some 50, .call 28 [.t 49, .k (.c (.int .i64 16))] [.c (.int .i64)], none⟩,
    ⟨2, some 16, .move (.t 50), none⟩]) (.seq (.seq (.region [⟨0, some 51, .move (.t 16), none⟩,
    ⟨1, some 52, .cmp .geq .i64 (.t 51) (.k (.c (.int .i64 8))), none⟩,
    ⟨2, some 53, .move (.t 52), none⟩,
    ⟨3, some 54, .move (.t 14), some (53, true)⟩,
    ⟨4, some 55, .cmp .lss .i64 (.t 54) (.k (.c (.int .i64 0))), some (53, true)⟩,
    ⟨5, some 56, .pick (.t 53) (.t 55) (.k (.c (.bool false))), none⟩,
    ⟨6, some 57, .move (.t 56), none⟩,
    ⟨7, some 58, .move (.t 16), some (57, false)⟩,
    ⟨8, some 59, .cmp .lss .i64 (.t 58) (.k (.c (.int .i64 8))), some (57, false)⟩,
    ⟨9, some 60, .move (.t 59), some (57, false)⟩,
    ⟨10, some 61, .move (.t 15), some (60, true)⟩,
    ⟨11, some 62, .cmp .lss .i64 (.t 61) (.k (.c (.int .i64 1))), some (60, true)⟩,
    ⟨12, some 63, .pick (.t 60) (.t 62) (.k (.c (.bool false))), some (57, false)⟩,
    ⟨13, some 64, .pick (.t 57) (.k (.c (.bool true))) (.t 63), none⟩]) (.cut [2, 3, 7, 8, 9, 10, 11, 12, 13, 14, 15, 16, 64, 202, 203] hodmanlaw23_Client.c24)) (.cut [2, 3, 7, 8, 9, 10, 11, 12, 13, 14, 15, 16, 202, 203] hodmanlaw23_Client.c98))))
def hodmanlaw23_Client.c106 : DCode := (.region [⟨0, some 31, .move (.t 12), none⟩,
    ⟨1, some 32, .bin .add .i64 (.t 31) (.k (.c (.int .i64 1))), none⟩,
    ⟨2, some 12, .move (.t 32), none⟩])
def hodmanlaw23_Client.c107 : DCode := (.seq (.block 1 (.seq (.region [⟨0, some 33, .build [.int .i64 0, .int .i64 0, .int .i64 0, .int .i64 0, .int .i64 0, .int .u8 0] [(0, 1, .k (.c (.int .i64 1)))], none⟩,
    ⟨1, some 13, .boxz 203 [86, 91, 96, 97, 98, 104, 105, 106, 111, 112, 122, 123, 124, 137, 138, 139, 140, 145, 149, 178, 182, 187] [.int .i64 0, .int .i64 0, .int .i64 0, .int .i64 0, .int .i64 0, .int .u8 0], none⟩,
    ⟨2, none, .stL 13 203 (.t 33) 6, none⟩]) (.seq (.region [⟨0, some 14, .move (.k (.c (.int .i64 (-1)))), none⟩]) (.seq (.seq (.region [⟨0, some 34, .move (.t 9), none⟩,
    ⟨1, some 35, .len (.t 34), none⟩,
    ⟨2, some 36, .cmp .gtr .i64 (.t 35) (.k (.c (.int .i64 0))), none⟩]) (.cond (.t 36) (.region [⟨0, some 37, .move (.t 9), none⟩,
    ⟨1, some 38, .move (.t 7), none⟩,
    ⟨2, some 39, .move (.t 9), none⟩,
    ⟨3, some 40, .len (.t 39), none⟩,
    ⟨4, some 41, .call 28 [.t 38, .t 40] [.c (.int .i64)], none⟩,
    ⟨5, some 42, .iaddr (.t 37) (.t 41) 1, none⟩,
    ⟨6, some 43, .ldG 42 (.c (.int .i64)), none⟩,
    ⟨7, some 14, .move (.t 43), none⟩]) .skip)) (.cut [2, 3, 7, 8, 9, 10, 11, 12, 13, 14, 202, 203] hodmanlaw23_Client.c101))))) (.cut [2, 3, 7, 8, 9, 10, 11, 12, 202] hodmanlaw23_Client.c106))
def hodmanlaw23_Client.c108 : DCode := (.seq (.seq (.region [⟨0, some 23, .move (.t 12), none⟩,
    ⟨1, some 24, .move (.t 2), none⟩,
    ⟨2, some 25, .cmp .lss .i64 (.t 23) (.t 24), none⟩,
    ⟨3, some 26, .move (.t 25), none⟩,
    ⟨4, some 27, .move (.t 7), some (26, true)⟩,
    ⟨5, some 28, .call 29 [.t 27] [.c (.bool)], some (26, true)⟩,
    ⟨6, some 29, .not (.t 28), some (26, true)⟩,
    ⟨7, some 30, .pick (.t 26) (.t 29) (.k (.c (.bool false))), none⟩]) (.cut [2, 3, 7, 8, 9, 10, 11, 12, 30, 202] hodmanlaw23_Client.c10)) hodmanlaw23_Client.c107)
def hodmanlaw23_Client.c109 : DCode := (.loop [2, 3, 7, 8, 9, 10, 11, 12, 202] hodmanlaw23_Client.c108)
def hodmanlaw23_Client.c114 : DCode := (.seq (.region [⟨0, some 201, .move (.t 8), none⟩,
    ⟨1, some 6, .move (.t 201), none⟩]) .ret)
def hodmanlaw23_Client.d : DFn := { ntmps := 204, res := [.t 6], body := (.seq (.region [⟨0, some 3, .boxv 202 [44, 66, 76, 79] (.t 0) 8, none⟩,
    ⟨1, some 6, .move (.k (.c (.sl 6 0 0 0))), none⟩]) (.seq (.region [⟨0, some 20, .move (.t 1), none⟩,
    ⟨1, some 21, .call 13 [.t 20] [.c (.ptr)], none⟩,
    ⟨2, some 7, .move (.t 21), none⟩]) (.seq (.region [⟨0, some 8, .move (.k (.c (.sl 6 0 0 0))), none⟩]) (.seq (.region [⟨0, some 9, .move (.k (.c (.sl 1 0 0 0))), none⟩]) (.seq (.region [⟨0, some 22, .mkmap (.c (.int .i64)), none⟩,
    ⟨1, some 10, .move (.t 22), none⟩]) (.seq (.region [⟨0, some 11, .move (.k (.c (.int .i64 0))), none⟩]) (.seq (.seq (.region [⟨0, some 12, .move (.k (.c (.int .i64 0))), none⟩]) (.block 0 hodmanlaw23_Client.c109)) hodmanlaw23_Client.c114))))))) }
def hodmanlaw23_Client.k114 (M : Mach) (C : Call) : Kont := execC M.j C (M.ag C) hodmanlaw23_Client.c114 ({ exits := [], ret := retK hodmanlaw23_Client.d } : Env) (retK hodmanlaw23_Client.d)
def hodmanlaw23_Client.e110 (M : Mach) (C : Call) : Env := { exits := (0, (hodmanlaw23_Client.k114 M C)) :: (({ exits := [], ret := retK hodmanlaw23_Client.d } : Env)).exits, ret := (({ exits := [], ret := retK hodmanlaw23_Client.d } : Env)).ret }
def hodmanlaw23_Client.L109 (M : Mach) (C : Call) (A2 : Int) (t7i : Nat) (t7o : Nat) (t8i : Nat) (t8o : Nat) (t8n : Nat) (t9i : Nat) (t9o : Nat) (t9n : Nat) (t10 : Nat) (t11 : Int) (t12 : Int) (r202_0 : Int) (r202_1 : Int) (r202_2 : Int) (r202_3 : Int) (r202_4 : Int) (r202_5 : Int) (r202_6 : Int) (r202_7 : Int) (G : GH) : Option Res := M.ag C [2, 3, 7, 8, 9, 10, 11, 12, 202] hodmanlaw23_Client.c108 (hodmanlaw23_Client.e110 M C) (hodmanlaw23_Client.k114 M C) [.und, .und, .v (.c (.int .i64 A2)), .ref 202 0, .und, .und, .und, .v (.c (.ptr t7i t7o)), .v (.c (.sl 6 t8i t8o t8n)), .v (.c (.sl 1 t9i t9o t9n)), .v (.c (.map t10)), .v (.c (.int .i64 t11)), .v (.c (.int .i64 t12)), .und, .und, .und, .und, .und, .und, .und, .und, .und, .und, .und, .und, .und, .und, .und, .und, .und, .und, .und, .und, .und, .und, .und, .und, .und, .und, .und, .und, .und, .und, .und, .und, .und, .und, .und, .und, .und, .und, .und, .und, .und, .und, .und, .und, .und, .und, .und, .und, .und, .und, .und, .und, .und, .und, .und, .und, .und, .und, .und, .und, .und, .und, .und, .und, .und, .und, .und, .und, .und, .und, .und, .und, .und, .und, .und, .und, .und, .und, .und, .und, .und, .und, .und, .und, .und, .und, .und, .und, .und, .und, .und, .und, .und, .und, .und, .und, .und, .und, .und, .und, .und, .und, .und, .und, .und, .und, .und, .und, .und, .und, .und, .und, .und, .und, .und, .und, .und, .und, .und, .und, .und, .und, .und, .und, .und, .und, .und, .und, .und, .und, .und, .und, .und, .und, .und, .und, .und, .und, .und, .und, .und, .und, .und, .und, .und, .und, .und, .und, .und, .und, .und, .und, .und, .und, .und, .und, .und, .und, .und, .und, .und, .und, .und, .und, .und, .und, .und, .und, .und, .und, .und, .und, .und, .und, .und, .und, .und, .und, .und, .und, .und, .und, .und, .und, .und, .und, .und, .und, .und, .box [.int .i64 r202_0, .int .i64 r202_1, .int .i64 r202_2, .int .i64 r202_3, .int .i64 r202_4, .int .i64 r202_5, .int .i64 r202_6, .int .i64 r202_7], .und] G
def hodmanlaw23_Client.k109 (M : Mach) (C : Call) : Kont := fun tm G => M.ag C [2, 3, 7, 8, 9, 10, 11, 12, 202] hodmanlaw23_Client.c108 (hodmanlaw23_Client.e110 M C) (hodmanlaw23_Client.k114 M C) (restr [2, 3, 7, 8, 9, 10, 11, 12, 202] 0 tm) G
def hodmanlaw23_Client.k107 (M : Mach) (C : Call) : Kont := execC M.j C (M.ag C) hodmanlaw23_Client.c107 (hodmanlaw23_Client.e110 M C) (hodmanlaw23_Client.k109 M C)
def hodmanlaw23_Client.J10 (M : Mach) (C : Call) (A2 : Int) (t7i : Nat) (t7o : Nat) (t8i : Nat) (t8o : Nat) (t8n : Nat) (t9i : Nat) (t9o : Nat) (t9n : Nat) (t10 : Nat) (t11 : Int) (t12 : Int) (t30 : Bool) (r202_0 : Int) (r202_1 : Int) (r202_2 : Int) (r202_3 : Int) (r202_4 : Int) (r202_5 : Int) (r202_6 : Int) (r202_7 : Int) (G : GH) : Option Res := M.j (execC M.j C (M.ag C) hodmanlaw23_Client.c10 (hodmanlaw23_Client.e110 M C) (hodmanlaw23_Client.k107 M C)) [.und, .und, .v (.c (.int .i64 A2)), .ref 202 0, .und, .und, .und, .v (.c (.ptr t7i t7o)), .v (.c (.sl 6 t8i t8o t8n)), .v (.c (.sl 1 t9i t9o t9n)), .v (.c (.map t10)), .v (.c (.int .i64 t11)), .v (.c (.int .i64 t12)), .und, .und, .und, .und, .und, .und, .und, .und, .und, .und, .und, .und, .und, .und, .und, .und, .und, .v (.c (.bool t30)), .und, .und, .und, .und, .und, .und, .und, .und, .und, .und, .und, .und, .und, .und, .und, .und, .und, .und, .und, .und, .und, .und, .und, .und, .und, .und, .und, .und, .und, .und, .und, .und, .und, .und, .und, .und, .und, .und, .und, .und, .und, .und, .und, .und, .und, .und, .und, .und, .und, .und, .und, .und, .und, .und, .und, .und, .und, .und, .und, .und, .und, .und, .und, .und, .und, .und, .und, .und, .und, .und, .und, .und, .und, .und, .und, .und, .und, .und, .und, .und, .und, .und, .und, .und, .und, .und, .und, .und, .und, .und, .und, .und, .und, .und, .und, .und, .und, .und, .und, .und, .und, .und, .und, .und, .und, .und, .und, .und, .und, .und, .und, .und, .und, .und, .und, .und, .und, .und, .und, .und, .und, .und, .und, .und, .und, .und, .und, .und, .und, .und, .und, .und, .und, .und, .und, .und, .und, .und, .und, .und, .und, .und, .und, .und, .und, .und, .und, .und, .und, .und, .und, .und, .und, .und, .und, .und, .und, .und, .und, .und, .und, .und, .und, .und, .und, .und, .und, .und, .und, .und, .und, .box [.int .i64 r202_0, .int .i64 r202_1, .int .i64 r202_2, .int .i64 r202_3, .int .i64 r202_4, .int .i64 r202_5, .int .i64 r202_6, .int .i64 r202_7], .und] G
def hodmanlaw23_Client.k106 (M : Mach) (C : Call) : Kont := execC M.j C (M.ag C) (.cut [2, 3, 7, 8, 9, 10, 11, 12, 202] hodmanlaw23_Client.c106) (hodmanlaw23_Client.e110 M C) (hodmanlaw23_Client.k109 M C)
def hodmanlaw23_Client.e105 (M : Mach) (C : Call) : Env := { exits := (1, (hodmanlaw23_Client.k106 M C)) :: ((hodmanlaw23_Client.e110 M C)).exits, ret := ((hodmanlaw23_Client.e110 M C)).ret }
def hodmanlaw23_Client.J101 (M : Mach) (C : Call) (A2 : Int) (t7i : Nat) (t7o : Nat) (t8i : Nat) (t8o : Nat) (t8n : Nat) (t9i : Nat) (t9o : Nat) (t9n : Nat) (t10 : Nat) (t11 : Int) (t12 : Int) (t14 : Int) (r202_0 : Int) (r202_1 : Int) (r202_2 : Int) (r202_3 : Int) (r202_4 : Int) (r202_5 : Int) (r202_6 : Int) (r202_7 : Int) (x203_0 : Int) (x203_1 : Int) (x203_2 : Int) (x203_3 : Int) (x203_4 : Int) (x203_5 : Int) (G : GH) : Option Res := M.j (execC M.j C (M.ag C) hodmanlaw23_Client.c101 (hodmanlaw23_Client.e105 M C) (hodmanlaw23_Client.k106 M C)) [.und, .und, .v (.c (.int .i64 A2)), .ref 202 0, .und, .und, .und, .v (.c (.ptr t7i t7o)), .v (.c (.sl 6 t8i t8o t8n)), .v (.c (.sl 1 t9i t9o t9n)), .v (.c (.map t10)), .v (.c (.int .i64 t11)), .v (.c (.int .i64 t12)), .ref 203 0, .v (.c (.int .i64 t14)), .und, .und, .und, .und, .und, .und, .und, .und, .und, .und, .und, .und, .und, .und, .und, .und, .und, .und, .und, .und, .und, .und, .und, .und, .und, .und, .und, .und, .und, .und, .und, .und, .und, .und, .und, .und, .und, .und, .und, .und, .und, .und, .und, .und, .und, .und, .und, .und, .und, .und, .und, .und, .und, .und, .und, .und, .und, .und, .und, .und, .und, .und, .und, .und, .und, .und, .und, .und, .und, .und, .und, .und, .und, .und, .und, .und, .und, .und, .und, .und, .und, .und, .und, .und, .und, .und, .und, .und, .und, .und, .und, .und, .und, .und, .und, .und, .und, .und, .und, .und, .und, .und, .und, .und, .und, .und, .und, .und, .und, .und, .und, .und, .und, .und, .und, .und, .und, .und, .und, .und, .und, .und, .und, .und, .und, .und, .und, .und, .und, .und, .und, .und, .und, .und, .und, .und, .und, .und, .und, .und, .und, .und, .und, .und, .und, .und, .und, .und, .und, .und, .und, .und, .und, .und, .und, .und, .und, .und, .und, .und, .und, .und, .und, .und, .und, .und, .und, .und, .und, .und, .und, .und, .und, .und, .und, .und, .und, .und, .und, .und, .und, .und, .und, .und, .und, .und, .und, .box [.int .i64 r202_0, .int .i64 r202_1, .int .i64 r202_2, .int .i64 r202_3, .int .i64 r202_4, .int .i64 r202_5, .int .i64 r202_6, .int .i64 r202_7], .box [.int .i64 x203_0, .int .i64 x203_1, .int .i64 x203_2, .int .i64 x203_3, .int .i64 x203_4, .int .u8 x203_5]] G
def hodmanlaw23_Client.k98 (M : Mach) (C : Call) : Kont := execC M.j C (M.ag C) (.cut [2, 3, 7, 8, 9, 10, 11, 12, 13, 14, 15, 16, 202, 203] hodmanlaw23_Client.c98) (hodmanlaw23_Client.e105 M C) (hodmanlaw23_Client.k106 M C)
def hodmanlaw23_Client.J24 (M : Mach) (C : Call) (A2 : Int) (t7i : Nat) (t7o : Nat) (t8i : Nat) (t8o : Nat) (t8n : Nat) (t9i : Nat) (t9o : Nat) (t9n : Nat) (t10 : Nat) (t11 : Int) (t12 : Int) (t14 : Int) (t15 : Int) (t16 : Int) (t64 : Bool) (r202_0 : Int) (r202_1 : Int) (r202_2 : Int) (r202_3 : Int) (r202_4 : Int) (r202_5 : Int) (r202_6 : Int) (r202_7 : Int) (x203_0 : Int) (x203_1 : Int) (x203_2 : Int) (x203_3 : Int) (x203_4 : Int) (x203_5 : Int) (G : GH) : Option Res := M.j (execC M.j C (M.ag C) hodmanlaw23_Client.c24 (hodmanlaw23_Client.e105 M C) (hodmanlaw23_Client.k98 M C)) [.und, .und, .v (.c (.int .i64 A2)), .ref 202 0, .und, .und, .und, .v (.c (.ptr t7i t7o)), .v (.c (.sl 6 t8i t8o t8n)), .v (.c (.sl 1 t9i t9o t9n)), .v (.c (.map t10)), .v (.c (.int .i64 t11)), .v (.c (.int .i64 t12)), .ref 203 0, .v (.c (.int .i64 t14)), .v (.c (.int .i64 t15)), .v (.c (.int .i64 t16)), .und, .und, .und, .und, .und, .und, .und, .und, .und, .und, .und, .und, .und, .und, .und, .und, .und, .und, .und, .und, .und, .und, .und, .und, .und, .und, .und, .und, .und, .und, .und, .und, .und, .und, .und, .und, .und, .und, .und, .und, .und, .und, .und, .und, .und, .und, .und, .v (.c (.bool t64)), .und, .und, .und, .und, .und, .und, .und, .und, .und, .und, .und, .und, .und, .und, .und, .und, .und, .und, .und, .und, .und, .und, .und, .und, .und, .und, .und, .und, .und, .und, .und, .und, .und, .und, .und, .und, .und, .und, .und, .und, .und, .und, .und, .und, .und, .und, .und, .und, .und, .und, .und, .und, .und, .und, .und, .und, .und, .und, .und, .und, .und, .und, .und, .und, .und, .und, .und, .und, .und, .und, .und, .und, .und, .und, .und, .und, .und, .und, .und, .und, .und, .und, .und, .und, .und, .und, .und, .und, .und, .und, .und, .und, .und, .und, .und, .und, .und, .und, .und, .und, .und, .und, .und, .und, .und, .und, .und, .und, .und, .und, .und, .und, .und, .und, .und, .und, .und, .und, .und, .und, .und, .und, .und, .und, .und, .und, .und, .und, .und, .und, .und, .und, .und, .und, .und, .und, .und, .box [.int .i64 r202_0, .int .i64 r202_1, .int .i64 r202_2, .int .i64 r202_3, .int .i64 r202_4, .int .i64 r202_5, .int .i64 r202_6, .int .i64 r202_7], .box [.int .i64 x203_0, .int .i64 x203_1, .int .i64 x203_2, .int .i64 x203_3, .int .i64 x203_4, .int .u8 x203_5]] G
def hodmanlaw23_Client.J98 (M : Mach) (C : Call) (A2 : Int) (t7i : Nat) (t7o : Nat) (t8i : Nat) (t8o : Nat) (t8n : Nat) (t9i : Nat) (t9o : Nat) (t9n : Nat) (t10 : Nat) (t11 : Int) (t12 : Int) (t14 : Int) (t15 : Int) (t16 : Int) (r202_0 : Int) (r202_1 : Int) (r202_2 : Int) (r202_3 : Int) (r202_4 : Int) (r202_5 : Int) (r202_6 : Int) (r202_7 : Int) (x203_0 : Int) (x203_1 : Int) (x203_2 : Int) (x203_3 : Int) (x203_4 : Int) (x203_5 : Int) (G : GH) : Option Res := M.j (execC M.j C (M.ag C) hodmanlaw23_Client.c98 (hodmanlaw23_Client.e105 M C) (hodmanlaw23_Client.k106 M C)) [.und, .und, .v (.c (.int .i64 A2)), .ref 202 0, .und, .und, .und, .v (.c (.ptr t7i t7o)), .v (.c (.sl 6 t8i t8o t8n)), .v (.c (.sl 1 t9i t9o t9n)), .v (.c (.map t10)), .v (.c (.int .i64 t11)), .v (.c (.int .i64 t12)), .ref 203 0, .v (.c (.int .i64 t14)), .v (.c (.int .i64 t15)), .v (.c (.int .i64 t16)), .und, .und, .und, .und, .und, .und, .und, .und, .und, .und, .und, .und, .und, .und, .und, .und, .und, .und, .und, .und, .und, .und, .und, .und, .und, .und, .und, .und, .und, .und, .und, .und, .und, .und, .und, .und, .und, .und, .und, .und, .und, .und, .und, .und, .und, .und, .und, .und, .und, .und, .und, .und, .und, .und, .und, .und, .und, .und, .und, .und, .und, .und, .und, .und, .und, .und, .und, .und, .und, .und, .und, .und, .und, .und, .und, .und, .und, .und, .und, .und, .und, .und, .und, .und, .und, .und, .und, .und, .und, .und, .und, .und, .und, .und, .und, .und, .und, .und, .und, .und, .und, .und, .und, .und, .und, .und, .und, .und, .und, .und, .und, .und, .und, .und, .und, .und, .und, .und, .und, .und, .und, .und, .und, .und, .und, .und, .und, .und, .und, .und, .und, .und, .und, .und, .und, .und, .und, .und, .und, .und, .und, .und, .und, .und, .und, .und, .und, .und, .und, .und, .und, .und, .und, .und, .und, .und, .und, .und, .und, .und, .und, .und, .und, .und, .und, .und, .und, .und, .und, .und, .und, .und, .und, .und, .und, .und, .und, .und, .und, .und, .und, .und, .und, .und, .und, .box [.int .i64 r202_0, .int .i64 r202_1, .int .i64 r202_2, .int .i64 r202_3, .int .i64 r202_4, .int .i64 r202_5, .int .i64 r202_6, .int .i64 r202_7], .box [.int .i64 x203_0, .int .i64 x203_1, .int .i64 x203_2, .int .i64 x203_3, .int .i64 x203_4, .int .u8 x203_5]] G
def hodmanlaw23_Client.J96 (M : Mach) (C : Call) (A2 : Int) (t7i : Nat) (t7o : Nat) (t8i : Nat) (t8o : Nat) (t8n : Nat) (t9i : Nat) (t9o : Nat) (t9n : Nat) (t10 : Nat) (t11 : Int) (t12 : Int) (t14 : Int) (t16 : Int) (t17 : Int) (r202_0 : Int) (r202_1 : Int) (r202_2 : Int) (r202_3 : Int) (r202_4 : Int) (r202_5 : Int) (r202_6 : Int) (r202_7 : Int) (x203_0 : Int) (x203_1 : Int) (x203_2 : Int) (x203_3 : Int) (x203_4 : Int) (x203_5 : Int) (G : GH) : Option Res := M.j (execC M.j C (M.ag C) hodmanlaw23_Client.c96 (hodmanlaw23_Client.e105 M C) (hodmanlaw23_Client.k106 M C)) [.und, .und, .v (.c (.int .i64 A2)), .ref 202 0, .und, .und, .und, .v (.c (.ptr t7i t7o)), .v (.c (.sl 6 t8i t8o t8n)), .v (.c (.sl 1 t9i t9o t9n)), .v (.c (.map t10)), .v (.c (.int .i64 t11)), .v (.c (.int .i64 t12)), .ref 203 0, .v (.c (.int .i64 t14)), .und, .v (.c (.int .i64 t16)), .v (.c (.int .i64 t17)), .und, .und, .und, .und, .und, .und, .und, .und, .und, .und, .und, .und, .und, .und, .und, .und, .und, .und, .und, .und, .und, .und, .und, .und, .und, .und, .und, .und, .und, .und, .und, .und, .und, .und, .und, .und, .und, .und, .und, .und, .und, .und, .und, .und, .und, .und, .und, .und, .und, .und, .und, .und, .und, .und, .und, .und, .und, .und, .und, .und, .und, .und, .und, .und, .und, .und, .und, .und, .und, .und, .und, .und, .und, .und, .und, .und, .und, .und, .und, .und, .und, .und, .und, .und, .und, .und, .und, .und, .und, .und, .und, .und, .und, .und, .und, .und, .und, .und, .und, .und, .und, .und, .und, .und, .und, .und, .und, .und, .und, .und, .und, .und, .und, .und, .und, .und, .und, .und, .und, .und, .und, .und, .und, .und, .und, .und, .und, .und, .und, .und, .und, .und, .und, .und, .und, .und, .und, .und, .und, .und, .und, .und, .und, .und, .und, .und, .und, .und, .und, .und, .und, .und, .und, .und, .und, .und, .und, .und, .und, .und, .und, .und, .und, .und, .und, .und, .und, .und, .und, .und, .und, .und, .und, .und, .und, .und, .und, .und, .und, .und, .und, .und, .und, .und, .box [.int .i64 r202_0, .int .i64 r202_1, .int .i64 r202_2, .int .i64 r202_3, .int .i64 r202_4, .int .i64 r202_5, .int .i64 r202_6, .int .i64 r202_7], .box [.int .i64 x203_0, .int .i64 x203_1, .int .i64 x203_2, .int .i64 x203_3, .int .i64 x203_4, .int .u8 x203_5]] G
def hodmanlaw23_Client.J95 (M : Mach) (C : Call) (A2 : Int) (t7i : Nat) (t7o : Nat) (t8i : Nat) (t8o : Nat) (t8n : Nat) (t9i : Nat) (t9o : Nat) (t9n : Nat) (t10 : Nat) (t11 : Int) (t12 : Int) (t14 : Int) (t17 : Int) (r202_0 : Int) (r202_1 : Int) (r202_2 : Int) (r202_3 : Int) (r202_4 : Int) (r202_5 : Int) (r202_6 : Int) (r202_7 : Int) (x203_0 : Int) (x203_1 : Int) (x203_2 : Int) (x203_3 : Int) (x203_4 : Int) (x203_5 : Int) (G : GH) : Option Res := M.j (execC M.j C (M.ag C) hodmanlaw23_Client.c95 (hodmanlaw23_Client.e105 M C) (hodmanlaw23_Client.k106 M C)) [.und, .und, .v (.c (.int .i64 A2)), .ref 202 0, .und, .und, .und, .v (.c (.ptr t7i t7o)), .v (.c (.sl 6 t8i t8o t8n)), .v (.c (.sl 1 t9i t9o t9n)), .v (.c (.map t10)), .v (.c (.int .i64 t11)), .v (.c (.int .i64 t12)), .ref 203 0, .v (.c (.int .i64 t14)), .und, .und, .v (.c (.int .i64 t17)), .und, .und, .und, .und, .und, .und, .und, .und, .und, .und, .und, .und, .und, .und, .und, .und, .und, .und, .und, .und, .und, .und, .und, .und, .und, .und, .und, .und, .und, .und, .und, .und, .und, .und, .und, .und, .und, .und, .und, .und, .und, .und, .und, .und, .und, .und, .und, .und, .und, .und, .und, .und, .und, .und, .und, .und, .und, .und, .und, .und, .und, .und, .und, .und, .und, .und, .und, .und, .und, .und, .und, .und, .und, .und, .und, .und, .und, .und, .und, .und, .und, .und, .und, .und, .und, .und, .und, .und, .und, .und, .und, .und, .und, .und, .und, .und, .und, .und, .und, .und, .und, .und, .und, .und, .und, .und, .und, .und, .und, .und, .und, .und, .und, .und, .und, .und, .und, .und, .und, .und, .und, .und, .und, .und, .und, .und, .und, .und, .und, .und, .und, .und, .und, .und, .und, .und, .und, .und, .und, .und, .und, .und, .und, .und, .und, .und, .und, .und, .und, .und, .und, .und, .und, .und, .und, .und, .und, .und, .und, .und, .und, .und, .und, .und, .und, .und, .und, .und, .und, .und, .und, .und, .und, .und, .und, .und, .und, .und, .und, .und, .und, .und, .und, .und, .box [.int .i64 r202_0, .int .i64 r202_1, .int .i64 r202_2, .int .i64 r202_3, .int .i64 r202_4, .int .i64 r202_5, .int .i64 r202_6, .int .i64 r202_7], .box [.int .i64 x203_0, .int .i64 x203_1, .int .i64 x203_2, .int .i64 x203_3, .int .i64 x203_4, .int .u8 x203_5]] G
def hodmanlaw23_Client.k93 (M : Mach) (C : Call) : Kont := execC M.j C (M.ag C) (.cut [2, 3, 7, 8, 9, 10, 11, 12, 13, 17, 202, 203] hodmanlaw23_Client.c93) (hodmanlaw23_Client.e105 M C) (hodmanlaw23_Client.k106 M C)
def hodmanlaw23_Client.J85 (M : Mach) (C : Call) (A2 : Int) (t7i : Nat) (t7o : Nat) (t8i : Nat) (t8o : Nat) (t8n : Nat) (t9i : Nat) (t9o : Nat) (t9n : Nat) (t10 : Nat) (t11 : Int) (t12 : Int) (t14 : Int) (t17 : Int) (t152 : Bool) (r202_0 : Int) (r202_1 : Int) (r202_2 : Int) (r202_3 : Int) (r202_4 : Int) (r202_5 : Int) (r202_6 : Int) (r202_7 : Int) (x203_0 : Int) (x203_1 : Int) (x203_2 : Int) (x203_3 : Int) (x203_4 : Int) (x203_5 : Int) (G : GH) : Option Res := M.j (execC M.j C (M.ag C) hodmanlaw23_Client.c85 (hodmanlaw23_Client.e105 M C) (hodmanlaw23_Client.k93 M C)) [.und, .und, .v (.c (.int .i64 A2)), .ref 202 0, .und, .und, .und, .v (.c (.ptr t7i t7o)), .v (.c (.sl 6 t8i t8o t8n)), .v (.c (.sl 1 t9i t9o t9n)), .v (.c (.map t10)), .v (.c (.int .i64 t11)), .v (.c (.int .i64 t12)), .ref 203 0, .v (.c (.int .i64 t14)), .und, .und, .v (.c (.int .i64 t17)), .und, .und, .und, .und, .und, .und, .und, .und, .und, .und, .und, .und, .und, .und, .und, .und, .und, .und, .und, .und, .und, .und, .und, .und, .und, .und, .und, .und, .und, .und, .und, .und, .und, .und, .und, .und, .und, .und, .und, .und, .und, .und, .und, .und, .und, .und, .und, .und, .und, .und, .und, .und, .und, .und, .und, .und, .und, .und, .und, .und, .und, .und, .und, .und, .und, .und, .und, .und, .und, .und, .und, .und, .und, .und, .und, .und, .und, .und, .und, .und, .und, .und, .und, .und, .und, .und, .und, .und, .und, .und, .und, .und, .und, .und, .und, .und, .und, .und, .und, .und, .und, .und, .und, .und, .und, .und, .und, .und, .und, .und, .und, .und, .und, .und, .und, .und, .und, .und, .und, .und, .und, .und, .und, .und, .und, .und, .und, .und, .und, .und, .und, .und, .und, .und, .v (.c (.bool t152)), .und, .und, .und, .und, .und, .und, .und, .und, .und, .und, .und, .und, .und, .und, .und, .und, .und, .und, .und, .und, .und, .und, .und, .und, .und, .und, .und, .und, .und, .und, .und, .und, .und, .und, .und, .und, .und, .und, .und, .und, .und, .und, .und, .und, .und, .und, .und, .und, .und, .box [.int .i64 r202_0, .int .i64 r202_1, .int .i64 r202_2, .int .i64 r202_3, .int .i64 r202_4, .int .i64 r202_5, .int .i64 r202_6, .int .i64 r202_7], .box [.int .i64 x203_0, .int .i64 x203_1, .int .i64 x203_2, .int .i64 x203_3, .int .i64 x203_4, .int .u8 x203_5]] G
def hodmanlaw23_Client.k80 (M : Mach) (C : Call) : Kont := execC M.j C (M.ag C) hodmanlaw23_Client.c80 (hodmanlaw23_Client.e105 M C) (hodmanlaw23_Client.k93 M C)
def hodmanlaw23_Client.e78 (M : Mach) (C : Call) : Env := { exits := (3, (hodmanlaw23_Client.k80 M C)) :: ((hodmanlaw23_Client.e105 M C)).exits, ret := ((hodmanlaw23_Client.e105 M C)).ret }
def hodmanlaw23_Client.L77 (M : Mach) (C : Call) (A2 : Int) (t7i : Nat) (t7o : Nat) (t8i : Nat) (t8o : Nat) (t8n : Nat) (t9i : Nat) (t9o : Nat) (t9n : Nat) (t10 : Nat) (t11 : Int) (t12 : Int) (t14 : Int) (t17 : Int) (t18i : Nat) (t18o : Nat) (t18n : Nat) (t19 : Int) (r202_0 : Int) (r202_1 : Int) (r202_2 : Int) (r202_3 : Int) (r202_4 : Int) (r202_5 : Int) (r202_6 : Int) (r202_7 : Int) (x203_0 : Int) (x203_1 : Int) (x203_2 : Int) (x203_3 : Int) (x203_4 : Int) (x203_5 : Int) (G : GH) : Option Res := M.ag C [2, 3, 7, 8, 9, 10, 11, 12, 13, 14, 17, 18, 19, 202, 203] hodmanlaw23_Client.c76 (hodmanlaw23_Client.e78 M C) (hodmanlaw23_Client.k80 M C) [.und, .und, .v (.c (.int .i64 A2)), .ref 202 0, .und, .und, .und, .v (.c (.ptr t7i t7o)), .v (.c (.sl 6 t8i t8o t8n)), .v (.c (.sl 1 t9i t9o t9n)), .v (.c (.map t10)), .v (.c (.int .i64 t11)), .v (.c (.int .i64 t12)), .ref 203 0, .v (.c (.int .i64 t14)), .und, .und, .v (.c (.int .i64 t17)), .v (.c (.sl 1 t18i t18o t18n)), .v (.c (.int .i64 t19)), .und, .und, .und, .und, .und, .und, .und, .und, .und, .und, .und, .und, .und, .und, .und, .und, .und, .und, .und, .und, .und, .und, .und, .und, .und, .und, .und, .und, .und, .und, .und, .und, .und, .und, .und, .und, .und, .und, .und, .und, .und, .und, .und, .und, .und, .und, .und, .und, .und, .und, .und, .und, .und, .und, .und, .und, .und, .und, .und, .und, .und, .und, .und, .und, .und, .und, .und, .und, .und, .und, .und, .und, .und, .und, .und, .und, .und, .und, .und, .und, .und, .und, .und, .und, .und, .und, .und, .und, .und, .und, .und, .und, .und, .und, .und, .und, .und, .und, .und, .und, .und, .und, .und, .und, .und, .und, .und, .und, .und, .und, .und, .und, .und, .und, .und, .und, .und, .und, .und, .und, .und, .und, .und, .und, .und, .und, .und, .und, .und, .und, .und, .und, .und, .und, .und, .und, .und, .und, .und, .und, .und, .und, .und, .und, .und, .und, .und, .und, .und, .und, .und, .und, .und, .und, .und, .und, .und, .und, .und, .und, .und, .und, .und, .und, .und, .und, .und, .und, .und, .und, .und, .und, .und, .und, .und, .und, .und, .und, .und, .und, .und, .und, .box [.int .i64 r202_0, .int .i64 r202_1, .int .i64 r202_2, .int .i64 r202_3, .int .i64 r202_4, .int .i64 r202_5, .int .i64 r202_6, .int .i64 r202_7], .box [.int .i64 x203_0, .int .i64 x203_1, .int .i64 x203_2, .int .i64 x203_3, .int .i64 x203_4, .int .u8 x203_5]] G
def hodmanlaw23_Client.J93 (M : Mach) (C : Call) (A2 : Int) (t7i : Nat) (t7o : Nat) (t8i : Nat) (t8o : Nat) (t8n : Nat) (t9i : Nat) (t9o : Nat) (t9n : Nat) (t10 : Nat) (t11 : Int) (t12 : Int) (t17 : Int) (r202_0 : Int) (r202_1 : Int) (r202_2 : Int) (r202_3 : Int) (r202_4 : Int) (r202_5 : Int) (r202_6 : Int) (r202_7 : Int) (x203_0 : Int) (x203_1 : Int) (x203_2 : Int) (x203_3 : Int) (x203_4 : Int) (x203_5 : Int) (G : GH) : Option Res := M.j (execC M.j C (M.ag C) hodmanlaw23_Client.c93 (hodmanlaw23_Client.e105 M C) (hodmanlaw23_Client.k106 M C)) [.und, .und, .v (.c (.int .i64 A2)), .ref 202 0, .und, .und, .und, .v (.c (.ptr t7i t7o)), .v (.c (.sl 6 t8i t8o t8n)), .v (.c (.sl 1 t9i t9o t9n)), .v (.c (.map t10)), .v (.c (.int .i64 t11)), .v (.c (.int .i64 t12)), .ref 203 0, .und, .und, .und, .v (.c (.int .i64 t17)), .und, .und, .und, .und, .und, .und, .und, .und, .und, .und, .und, .und, .und, .und, .und, .und, .und, .und, .und, .und, .und, .und, .und, .und, .und, .und, .und, .und, .und, .und, .und, .und, .und, .und, .und, .und, .und, .und, .und, .und, .und, .und, .und, .und, .und, .und, .und, .und, .und, .und, .und, .und, .und, .und, .und, .und, .und, .und, .und, .und, .und, .und, .und, .und, .und, .und, .und, .und, .und, .und, .und, .und, .und, .und, .und, .und, .und, .und, .und, .und, .und, .und, .und, .und, .und, .und, .und, .und, .und, .und, .und, .und, .und, .und, .und, .und, .und, .und, .und, .und, .und, .und, .und, .und, .und, .und, .und, .und, .und, .und, .und, .und, .und, .und, .und, .und, .und, .und, .und, .und, .und, .und, .und, .und, .und, .und, .und, .und, .und, .und, .und, .und, .und, .und, .und, .und, .und, .und, .und, .und, .und, .und, .und, .und, .und, .und, .und, .und, .und, .und, .und, .und, .und, .und, .und, .und, .und, .und, .und, .und, .und, .und, .und, .und, .und, .und, .und, .und, .und, .und, .und, .und, .und, .und, .und, .und, .und, .und, .und, .und, .und, .und, .und, .und, .box [.int .i64 r202_0, .int .i64 r202_1, .int .i64 r202_2, .int .i64 r202_3, .int .i64 r202_4, .int .i64 r202_5, .int .i64 r202_6, .int .i64 r202_7], .box [.int .i64 x203_0, .int .i64 x203_1, .int .i64 x203_2, .int .i64 x203_3, .int .i64 x203_4, .int .u8 x203_5]] G
def hodmanlaw23_Client.k77 (M : Mach) (C : Call) : Kont := fun tm G => M.ag C [2, 3, 7, 8, 9, 10, 11, 12, 13, 14, 17, 18, 19, 202, 203] hodmanlaw23_Client.c76 (hodmanlaw23_Client.e78 M C) (hodmanlaw23_Client.k80 M C) (restr [2, 3, 7, 8, 9, 10, 11, 12, 13, 14, 17, 18, 19, 202, 203] 0 tm) G
def hodmanlaw23_Client.J74 (M : Mach) (C : Call) (A2 : Int) (t7i : Nat) (t7o : Nat) (t8i : Nat) (t8o : Nat) (t8n : Nat) (t9i : Nat) (t9o : Nat) (t9n : Nat) (t10 : Nat) (t11 : Int) (t12 : Int) (t14 : Int) (t17 : Int) (t18i : Nat) (t18o : Nat) (t18n : Nat) (t19 : Int) (r202_0 : Int) (r202_1 : Int) (r202_2 : Int) (r202_3 : Int) (r202_4 : Int) (r202_5 : Int) (r202_6 : Int) (r202_7 : Int) (x203_0 : Int) (x203_1 : Int) (x203_2 : Int) (x203_3 : Int) (x203_4 : Int) (x203_5 : Int) (G : GH) : Option Res := M.j (execC M.j C (M.ag C) hodmanlaw23_Client.c74 (hodmanlaw23_Client.e78 M C) (hodmanlaw23_Client.k77 M C)) [.und, .und, .v (.c (.int .i64 A2)), .ref 202 0, .und, .und, .und, .v (.c (.ptr t7i t7o)), .v (.c (.sl 6 t8i t8o t8n)), .v (.c (.sl 1 t9i t9o t9n)), .v (.c (.map t10)), .v (.c (.int .i64 t11)), .v (.c (.int .i64 t12)), .ref 203 0, .v (.c (.int .i64 t14)), .und, .und, .v (.c (.int .i64 t17)), .v (.c (.sl 1 t18i t18o t18n)), .v (.c (.int .i64 t19)), .und, .und, .und, .und, .und, .und, .und, .und, .und, .und, .und, .und, .und, .und, .und, .und, .und, .und, .und, .und, .und, .und, .und, .und, .und, .und, .und, .und, .und, .und, .und, .und, .und, .und, .und, .und, .und, .und, .und, .und, .und, .und, .und, .und, .und, .und, .und, .und, .und, .und, .und, .und, .und, .und, .und, .und, .und, .und, .und, .und, .und, .und, .und, .und, .und, .und, .und, .und, .und, .und, .und, .und, .und, .und, .und, .und, .und, .und, .und, .und, .und, .und, .und, .und, .und, .und, .und, .und, .und, .und, .und, .und, .und, .und, .und, .und, .und, .und, .und, .und, .und, .und, .und, .und, .und, .und, .und, .und, .und, .und, .und, .und, .und, .und, .und, .und, .und, .und, .und, .und, .und, .und, .und, .und, .und, .und, .und, .und, .und, .und, .und, .und, .und, .und, .und, .und, .und, .und, .und, .und, .und, .und, .und, .und, .und, .und, .und, .und, .und, .und, .und, .und, .und, .und, .und, .und, .und, .und, .und, .und, .und, .und, .und, .und, .und, .und, .und, .und, .und, .und, .und, .und, .und, .und, .und, .und, .und, .und, .und, .und, .und, .und, .box [.int .i64 r202_0, .int .i64 r202_1, .int .i64 r202_2, .int .i64 r202_3, .int .i64 r202_4, .int .i64 r202_5, .int .i64 r202_6, .int .i64 r202_7], .box [.int .i64 x203_0, .int .i64 x203_1, .int .i64 x203_2, .int .i64 x203_3, .int .i64 x203_4, .int .u8 x203_5]] G
def hodmanlaw23_Client.J92 (M : Mach) (C : Call) (A2 : Int) (t7i : Nat) (t7o : Nat) (t8i : Nat) (t8o : Nat) (t8n : Nat) (t9i : Nat) (t9o : Nat) (t9n : Nat) (t10 : Nat) (t11 : Int) (t12 : Int) (t17 : Int) (t190 : Bool) (r202_0 : Int) (r202_1 : Int) (r202_2 : Int) (r202_3 : Int) (r202_4 : Int) (r202_5 : Int) (r202_6 : Int) (r202_7 : Int) (G : GH) : Option Res := M.j (execC M.j C (M.ag C) hodmanlaw23_Client.c92 (hodmanlaw23_Client.e105 M C) (hodmanlaw23_Client.k106 M C)) [.und, .und, .v (.c (.int .i64 A2)), .ref 202 0, .und, .und, .und, .v (.c (.ptr t7i t7o)), .v (.c (.sl 6 t8i t8o t8n)), .v (.c (.sl 1 t9i t9o t9n)), .v (.c (.map t10)), .v (.c (.int .i64 t11)), .v (.c (.int .i64 t12)), .und, .und, .und, .und, .v (.c (.int .i64 t17)), .und, .und, .und, .und, .und, .und, .und, .und, .und, .und, .und, .und, .und, .und, .und, .und, .und, .und, .und, .und, .und, .und, .und, .und, .und, .und, .und, .und, .und, .und, .und, .und, .und, .und, .und, .und, .und, .und, .und, .und, .und, .und, .und, .und, .und, .und, .und, .und, .und, .und, .und, .und, .und, .und, .und, .und, .und, .und, .und, .und, .und, .und, .und, .und, .und, .und, .und, .und, .und, .und, .und, .und, .und, .und, .und, .und, .und, .und, .und, .und, .und, .und, .und, .und, .und, .und, .und, .und, .und, .und, .und, .und, .und, .und, .und, .und, .und, .und, .und, .und, .und, .und, .und, .und, .und, .und, .und, .und, .und, .und, .und, .und, .und, .und, .und, .und, .und, .und, .und, .und, .und, .und, .und, .und, .und, .und, .und, .und, .und, .und, .und, .und, .und, .und, .und, .und, .und, .und, .und, .und, .und, .und, .und, .und, .und, .und, .und, .und, .und, .und, .und, .und, .und, .und, .und, .und, .und, .und, .und, .und, .und, .und, .und, .und, .und, .und, .und, .und, .und, .und, .und, .und, .v (.c (.bool t190)), .und, .und, .und, .und, .und, .und, .und, .und, .und, .und, .und, .box [.int .i64 r202_0, .int .i64 r202_1, .int .i64 r202_2, .int .i64 r202_3, .int .i64 r202_4, .int .i64 r202_5, .int .i64 r202_6, .int .i64 r202_7], .und] G
def hodmanlaw23_Client.J106 (M : Mach) (C : Call) (A2 : Int) (t7i : Nat) (t7o : Nat) (t8i : Nat) (t8o : Nat) (t8n : Nat) (t9i : Nat) (t9o : Nat) (t9n : Nat) (t10 : Nat) (t11 : Int) (t12 : Int) (r202_0 : Int) (r202_1 : Int) (r202_2 : Int) (r202_3 : Int) (r202_4 : Int) (r202_5 : Int) (r202_6 : Int) (r202_7 : Int) (G : GH) : Option Res := M.j (execC M.j C (M.ag C) hodmanlaw23_Client.c106 (hodmanlaw23_Client.e110 M C) (hodmanlaw23_Client.k109 M C)) [.und, .und, .v (.c (.int .i64 A2)), .ref 202 0, .und, .und, .und, .v (.c (.ptr t7i t7o)), .v (.c (.sl 6 t8i t8o t8n)), .v (.c (.sl 1 t9i t9o t9n)), .v (.c (.map t10)), .v (.c (.int .i64 t11)), .v (.c (.int .i64 t12)), .und, .und, .und, .und, .und, .und, .und, .und, .und, .und, .und, .und, .und, .und, .und, .und, .und, .und, .und, .und, .und, .und, .und, .und, .und, .und, .und, .und, .und, .und, .und, .und, .und, .und, .und, .und, .und, .und, .und, .und, .und, .und, .und, .und, .und, .und, .und, .und, .und, .und, .und, .und, .und, .und, .und, .und, .und, .und, .und, .und, .und, .und, .und, .und, .und, .und, .und, .und, .und, .und, .und, .und, .und, .und, .und, .und, .und, .und, .und, .und, .und, .und, .und, .und, .und, .und, .und, .und, .und, .und, .und, .und, .und, .und, .und, .und, .und, .und, .und, .und, .und, .und, .und, .und, .und, .und, .und, .und, .und, .und, .und, .und, .und, .und, .und, .und, .und, .und, .und, .und, .und, .und, .und, .und, .und, .und, .und, .und, .und, .und, .und, .und, .und, .und, .und, .und, .und, .und, .und, .und, .und, .und, .und, .und, .und, .und, .und, .und, .und, .und, .und, .und, .und, .und, .und, .und, .und, .und, .und, .und, .und, .und, .und, .und, .und, .und, .und, .und, .und, .und, .und, .und, .und, .und, .und, .und, .und, .und, .und, .und, .und, .und, .und, .und, .und, .und, .und, .und, .und, .box [.int .i64 r202_0, .int .i64 r202_1, .int .i64 r202_2, .int .i64 r202_3, .int .i64 r202_4, .int .i64 r202_5, .int .i64 r202_6, .int .i64 r202_7], .und] G
theorem hodmanlaw23_Client.L109_eq (M : Mach) (C : Call) (A2 : Int) (t7i : Nat) (t7o : Nat) (t8i : Nat) (t8o : Nat) (t8n : Nat) (t9i : Nat) (t9o : Nat) (t9n : Nat) (t10 : Nat) (t11 : Int) (t12 : Int) (r202_0 : Int) (r202_1 : Int) (r202_2 : Int) (r202_3 : Int) (r202_4 : Int) (r202_5 : Int) (r202_6 : Int) (r202_7 : Int) (G : GH) : hodmanlaw23_Client.L109 M C A2 t7i t7o t8i t8o t8n t9i t9o t9n t10 t11 t12 r202_0 r202_1 r202_2 r202_3 r202_4 r202_5 r202_6 r202_7 G = (bif decide (t12 < A2) then (C hodmanplay_Picks_Over.id [.c (.ptr t7i t7o)] G).bind fun qr_4 => (((qr_4.1[0]?).bind V1.c?).bind Cell.asB).bind fun qb_5 => hodmanlaw23_Client.J10 M C A2 t7i t7o t8i t8o t8n t9i t9o t9n t10 t11 t12 (!qb_5) r202_0 r202_1 r202_2 r202_3 r202_4 r202_5 r202_6 r202_7 qr_4.2 else hodmanlaw23_Client.J10 M C A2 t7i t7o t8i t8o t8n t9i t9o t9n t10 t11 t12 false r202_0 r202_1 r202_2 r202_3 r202_4 r202_5 r202_6 r202_7 G) := (M.hs _ _ _ _ _ _ _).trans (by kernel_rfl)
theorem hodmanlaw23_Client.J10_eq (M : Mach) (C : Call) (A2 : Int) (t7i : Nat) (t7o : Nat) (t8i : Nat) (t8o : Nat) (t8n : Nat) (t9i : Nat) (t9o : Nat) (t9n : Nat) (t10 : Nat) (t11 : Int) (t12 : Int) (t30 : Bool) (r202_0 : Int) (r202_1 : Int) (r202_2 : Int) (r202_3 : Int) (r202_4 : Int) (r202_5 : Int) (r202_6 : Int) (r202_7 : Int) (G : GH) : hodmanlaw23_Client.J10 M C A2 t7i t7o t8i t8o t8n t9i t9o t9n t10 t11 t12 t30 r202_0 r202_1 r202_2 r202_3 r202_4 r202_5 r202_6 r202_7 G = (bif t30 then bif decide (((t9n : Nat) : Int) > 0) then (C hodmanplay_Picks_Num.id [.c (.ptr t7i t7o), .c (.int .i64 ((t9n : Nat) : Int))] G).bind fun qr_6 => (((qr_6.1[0]?).bind V1.c?).bind (Cell.asI .i64)).bind fun qx_7 => guardK (decide (0 ≤ qx_7 ∧ qx_7 < ((t9n : Nat) : Int))) (((qr_6.2.ld t9i (t9o + Int.toNat qx_7 * 1)).bind (Cell.asI .i64)).bind fun qx_8 => hodmanlaw23_Client.J101 M C A2 t7i t7o t8i t8o t8n t9i t9o t9n t10 t11 t12 qx_8 r202_0 r202_1 r202_2 r202_3 r202_4 r202_5 r202_6 r202_7 1 0 0 0 0 0 qr_6.2) else hodmanlaw23_Client.J101 M C A2 t7i t7o t8i t8o t8n t9i t9o t9n t10 t11 t12 (-1) r202_0 r202_1 r202_2 r202_3 r202_4 r202_5 r202_6 r202_7 1 0 0 0 0 0 G else some ([.c (.sl 6 t8i t8o t8n)], G)) := (M.hj _ _ _).trans (by kernel_rfl)
theorem hodmanlaw23_Client.J101_eq (M : Mach) (C : Call) (A2 : Int) (t7i : Nat) (t7o : Nat) (t8i : Nat) (t8o : Nat) (t8n : Nat) (t9i : Nat) (t9o : Nat) (t9n : Nat) (t10 : Nat) (t11 : Int) (t12 : Int) (t14 : Int) (r202_0 : Int) (r202_1 : Int) (r202_2 : Int) (r202_3 : Int) (r202_4 : Int) (r202_5 : Int) (r202_6 : Int) (r202_7 : Int) (x203_0 : Int) (x203_1 : Int) (x203_2 : Int) (x203_3 : Int) (x203_4 : Int) (x203_5 : Int) (G : GH) : hodmanlaw23_Client.J101 M C A2 t7i t7o t8i t8o t8n t9i t9o t9n t10 t11 t12 t14 r202_0 r202_1 r202_2 r202_3 r202_4 r202_5 r202_6 r202_7 x203_0 x203_1 x203_2 x203_3 x203_4 x203_5 G = ((C hodmanplay_Picks_Num.id [.c (.ptr t7i t7o), .c (.int .i64 16)] G).bind fun qr_9 => (((qr_9.1[0]?).bind V1.c?).bind (Cell.asI .i64)).bind fun qx_10 => bif decide (qx_10 ≥ 8) then bif decide (t14 < 0) then hodmanlaw23_Client.J24 M C A2 t7i t7o t8i t8o t8n t9i t9o t9n t10 t11 t12 t14 (IntKind.i64.wrap ((IntKind.i64.wrap (Int.tdiv r202_2 2)) - t11)) qx_10 true r202_0 r202_1 r202_2 r202_3 r202_4 r202_5 r202_6 r202_7 x203_0 x203_1 x203_2 x203_3 x203_4 x203_5 qr_9.2 else bif decide (qx_10 < 8) then hodmanlaw23_Client.J24 M C A2 t7i t7o t8i t8o t8n t9i t9o t9n t10 t11 t12 t14 (IntKind.i64.wrap ((IntKind.i64.wrap (Int.tdiv r202_2 2)) - t11)) qx_10 (decide (IntKind.i64.wrap ((IntKind.i64.wrap (Int.tdiv r202_2 2)) - t11) < 1)) r202_0 r202_1 r202_2 r202_3 r202_4 r202_5 r202_6 r202_7 x203_0 x203_1 x203_2 x203_3 x203_4 x203_5 qr_9.2 else hodmanlaw23_Client.J24 M C A2 t7i t7o t8i t8o t8n t9i t9o t9n t10 t11 t12 t14 (IntKind.i64.wrap ((IntKind.i64.wrap (Int.tdiv r202_2 2)) - t11)) qx_10 false r202_0 r202_1 r202_2 r202_3 r202_4 r202_5 r202_6 r202_7 x203_0 x203_1 x203_2 x203_3 x203_4 x203_5 qr_9.2 else bif decide (qx_10 < 8) then hodmanlaw23_Client.J24 M C A2 t7i t7o t8i t8o t8n t9i t9o t9n t10 t11 t12 t14 (IntKind.i64.wrap ((IntKind.i64.wrap (Int.tdiv r202_2 2)) - t11)) qx_10 (decide (IntKind.i64.wrap ((IntKind.i64.wrap (Int.tdiv r202_2 2)) - t11) < 1)) r202_0 r202_1 r202_2 r202_3 r202_4 r202_5 r202_6 r202_7 x203_0 x203_1 x203_2 x203_3 x203_4 x203_5 qr_9.2 else hodmanlaw23_Client.J24 M C A2 t7i t7o t8i t8o t8n t9i t9o t9n t10 t11 t12 t14 (IntKind.i64.wrap ((IntKind.i64.wrap (Int.tdiv r202_2 2)) - t11)) qx_10 false r202_0 r202_1 r202_2 r202_3 r202_4 r202_5 r202_6 r202_7 x203_0 x203_1 x203_2 x203_3 x203_4 x203_5 qr_9.2) := (M.hj _ _ _).trans (by kernel_rfl)
theorem hodmanlaw23_Client.J24_eq (M : Mach) (C : Call) (A2 : Int) (t7i : Nat) (t7o : Nat) (t8i : Nat) (t8o : Nat) (t8n : Nat) (t9i : Nat) (t9o : Nat) (t9n : Nat) (t10 : Nat) (t11 : Int) (t12 : Int) (t14 : Int) (t15 : Int) (t16 : Int) (t64 : Bool) (r202_0 : Int) (r202_1 : Int) (r202_2 : Int) (r202_3 : Int) (r202_4 : Int) (r202_5 : Int) (r202_6 : Int) (r202_7 : Int) (x203_0 : Int) (x203_1 : Int) (x203_2 : Int) (x203_3 : Int) (x203_4 : Int) (x203_5 : Int) (G : GH) : hodmanlaw23_Client.J24 M C A2 t7i t7o t8i t8o t8n t9i t9o t9n t10 t11 t12 t14 t15 t16 t64 r202_0 r202_1 r202_2 r202_3 r202_4 r202_5 r202_6 r202_7 x203_0 x203_1 x203_2 x203_3 x203_4 x203_5 G = (bif t64 then hodmanlaw23_Client.J98 M C A2 t7i t7o t8i t8o t8n t9i t9o t9n t10 t11 t12 t14 t15 15 r202_0 r202_1 r202_2 r202_3 r202_4 r202_5 r202_6 r202_7 x203_0 x203_1 x203_2 x203_3 x203_4 x203_5 G else hodmanlaw23_Client.J98 M C A2 t7i t7o t8i t8o t8n t9i t9o t9n t10 t11 t12 t14 t15 t16 r202_0 r202_1 r202_2 r202_3 r202_4 r202_5 r202_6 r202_7 x203_0 x203_1 x203_2 x203_3 x203_4 x203_5 G) := (M.hj _ _ _).trans (by kernel_rfl)
theorem hodmanlaw23_Client.J98_eq (M : Mach) (C : Call) (A2 : Int) (t7i : Nat) (t7o : Nat) (t8i : Nat) (t8o : Nat) (t8n : Nat) (t9i : Nat) (t9o : Nat) (t9n : Nat) (t10 : Nat) (t11 : Int) (t12 : Int) (t14 : Int) (t15 : Int) (t16 : Int) (r202_0 : Int) (r202_1 : Int) (r202_2 : Int) (r202_3 : Int) (r202_4 : Int) (r202_5 : Int) (r202_6 : Int) (r202_7 : Int) (x203_0 : Int) (x203_1 : Int) (x203_2 : Int) (x203_3 : Int) (x203_4 : Int) (x203_5 : Int) (G : GH) : hodmanlaw23_Client.J98 M C A2 t7i t7o t8i t8o t8n t9i t9o t9n t10 t11 t12 t14 t15 t16 r202_0 r202_1 r202_2 r202_3 r202_4 r202_5 r202_6 r202_7 x203_0 x203_1 x203_2 x203_3 x203_4 x203_5 G = ((C hodmanplay_Picks_Num.id [.c (.ptr t7i t7o), .c (.int .i64 (mx2 1 (mn2 r202_1 (mx2 t15 1))))] G).bind fun qr_11 => (((qr_11.1[0]?).bind V1.c?).bind (Cell.asI .i64)).bind fun qx_12 => bif decide (IntKind.i64.wrap (2 * (IntKind.i64.wrap (1 + qx_12))) < r202_0) then hodmanlaw23_Client.J96 M C A2 t7i t7o t8i t8o t8n t9i t9o t9n t10 t11 t12 t14 t16 (IntKind.i64.wrap (Int.tdiv (IntKind.i64.wrap (r202_0 + 1)) 2)) r202_0 r202_1 r202_2 r202_3 r202_4 r202_5 r202_6 r202_7 x203_0 x203_1 x203_2 x203_3 x203_4 x203_5 qr_11.2 else hodmanlaw23_Client.J96 M C A2 t7i t7o t8i t8o t8n t9i t9o t9n t10 t11 t12 t14 t16 (IntKind.i64.wrap (1 + qx_12)) r202_0 r202_1 r202_2 r202_3 r202_4 r202_5 r202_6 r202_7 x203_0 x203_1 x203_2 x203_3 x203_4 x203_5 qr_11.2) := (M.hj _ _ _).trans (by kernel_rfl)
theorem hodmanlaw23_Client.J96_eq (M : Mach) (C : Call) (A2 : Int) (t7i : Nat) (t7o : Nat) (t8i : Nat) (t8o : Nat) (t8n : Nat) (t9i : Nat) (t9o : Nat) (t9n : Nat) (t10 : Nat) (t11 : Int) (t12 : Int) (t14 : Int) (t16 : Int) (t17 : Int) (r202_0 : Int) (r202_1 : Int) (r202_2 : Int) (r202_3 : Int) (r202_4 : Int) (r202_5 : Int) (r202_6 : Int) (r202_7 : Int) (x203_0 : Int) (x203_1 : Int) (x203_2 : Int) (x203_3 : Int) (x203_4 : Int) (x203_5 : Int) (G : GH) : hodmanlaw23_Client.J96 M C A2 t7i t7o t8i t8o t8n t9i t9o t9n t10 t11 t12 t14 t16 t17 r202_0 r202_1 r202_2 r202_3 r202_4 r202_5 r202_6 r202_7 x203_0 x203_1 x203_2 x203_3 x203_4 x203_5 G = (bif decide (t16 < 7) then hodmanlaw23_Client.J95 M C A2 t7i t7o t8i t8o t8n t9i t9o t9n t10 t11 t12 t14 t17 r202_0 r202_1 r202_2 r202_3 r202_4 r202_5 r202_6 r202_7 x203_0 x203_1 t17 x203_3 x203_4 x203_5 G else bif decide (t16 = 7) then hodmanlaw23_Client.J95 M C A2 t7i t7o t8i t8o t8n t9i t9o t9n t10 t11 t12 t14 t17 r202_0 r202_1 r202_2 r202_3 r202_4 r202_5 r202_6 r202_7 2 x203_1 t17 x203_3 1 x203_5 G else bif decide (t16 < 10) then hodmanlaw23_Client.J95 M C A2 t7i t7o t8i t8o t8n t9i t9o t9n t10 t11 t12 t14 t17 r202_0 r202_1 r202_2 r202_3 r202_4 r202_5 r202_6 r202_7 4 t14 t17 x203_3 x203_4 x203_5 G else bif decide (t16 < 13) then hodmanlaw23_Client.J95 M C A2 t7i t7o t8i t8o t8n t9i t9o t9n t10 t11 t12 t14 t17 r202_0 r202_1 r202_2 r202_3 r202_4 r202_5 r202_6 r202_7 5 t14 x203_2 x203_3 x203_4 x203_5 G else bif decide (t16 = 13) then (G.ents0 (.c (.int .i64)) t10).bind fun qes_13 => ((((some ((mapGet qes_13 (.c (.int .i64 t14))).getD (.c (.int .i64 0))))).bind V1.c?).bind (Cell.asI .i64)).bind fun qx_14 => (C hodmanplay_Picks_Num.id [.c (.ptr t7i t7o), .c (.int .i64 qx_14)] G).bind fun qr_15 => (((qr_15.1[0]?).bind V1.c?).bind (Cell.asI .i64)).bind fun qx_16 => hodmanlaw23_Client.J95 M C A2 t7i t7o t8i t8o t8n t9i t9o t9n t10 t11 t12 t14 t17 r202_0 r202_1 r202_2 r202_3 r202_4 r202_5 r202_6 r202_7 7 t14 x203_2 x203_3 qx_16 x203_5 qr_15.2 else bif decide (t16 = 14) then (G.ents0 (.c (.int .i64)) t10).bind fun qes_17 => ((((some ((mapGet qes_17 (.c (.int .i64 t14))).getD (.c (.int .i64 0))))).bind V1.c?).bind (Cell.asI .i64)).bind fun qx_18 => (C hodmanplay_Picks_Num.id [.c (.ptr t7i t7o), .c (.int .i64 qx_18)] G).bind fun qr_19 => (((qr_19.1[0]?).bind V1.c?).bind (Cell.asI .i64)).bind fun qx_20 => (C hodmanplay_Picks_Num.id [.c (.ptr t7i t7o), .c (.int .i64 256)] qr_19.2).bind fun qr_21 => (((qr_21.1[0]?).bind V1.c?).bind (Cell.asI .i64)).bind fun qx_22 => hodmanlaw23_Client.J95 M C A2 t7i t7o t8i t8o t8n t9i t9o t9n t10 t11 t12 t14 t17 r202_0 r202_1 r202_2 r202_3 r202_4 r202_5 r202_6 r202_7 8 t14 x203_2 x203_3 qx_20 (IntKind.u8.wrap qx_22) qr_21.2 else (C hodmanplay_Picks_Num.id [.c (.ptr t7i t7o), .c (.int .i64 2)] G).bind fun qr_23 => (((qr_23.1[0]?).bind V1.c?).bind (Cell.asI .i64)).bind fun qx_24 => hodmanlaw23_Client.J95 M C A2 t7i t7o t8i t8o t8n t9i t9o t9n t10 t11 t12 t14 t17 r202_0 r202_1 r202_2 r202_3 r202_4 r202_5 r202_6 r202_7 (IntKind.i64.wrap (9 + qx_24)) x203_1 x203_2 x203_3 x203_4 x203_5 qr_23.2) := (M.hj _ _ _).trans (by kernel_rfl)
theorem hodmanlaw23_Client.J95_eq (M : Mach) (C : Call) (A2 : Int) (t7i : Nat) (t7o : Nat) (t8i : Nat) (t8o : Nat) (t8n : Nat) (t9i : Nat) (t9o : Nat) (t9n : Nat) (t10 : Nat) (t11 : Int) (t12 : Int) (t14 : Int) (t17 : Int) (r202_0 : Int) (r202_1 : Int) (r202_2 : Int) (r202_3 : Int) (r202_4 : Int) (r202_5 : Int) (r202_6 : Int) (r202_7 : Int) (x203_0 : Int) (x203_1 : Int) (x203_2 : Int) (x203_3 : Int) (x203_4 : Int) (x203_5 : Int) (G : GH) : hodmanlaw23_Client.J95 M C A2 t7i t7o t8i t8o t8n t9i t9o t9n t10 t11 t12 t14 t17 r202_0 r202_1 r202_2 r202_3 r202_4 r202_5 r202_6 r202_7 x203_0 x203_1 x203_2 x203_3 x203_4 x203_5 G = (let qG_25 := G.alloc (.row [.int .i64 x203_0, .int .i64 x203_1, .int .i64 x203_2, .int .i64 x203_3, .int .i64 x203_4, .int .u8 x203_5] false); (if 1 = 0 then some [] else qG_25.lds G.next 0 (1 * 6)).bind fun qnew_26 => guardK (decide (t8n + 1 ≤ most)) ((qG_25.app t8i t8o t8n 6 1 qnew_26).bind fun qp_27 => bif decide (x203_0 = 5) then hodmanlaw23_Client.J85 M C A2 t7i t7o qp_27.1 qp_27.2.1 (t8n + 1) t9i t9o t9n t10 t11 t12 t14 t17 true r202_0 r202_1 r202_2 r202_3 r202_4 r202_5 r202_6 r202_7 x203_0 x203_1 x203_2 x203_3 x203_4 x203_5 qp_27.2.2 else hodmanlaw23_Client.J85 M C A2 t7i t7o qp_27.1 qp_27.2.1 (t8n + 1) t9i t9o t9n t10 t11 t12 t14 t17 (decide (x203_0 = 4)) r202_0 r202_1 r202_2 r202_3 r202_4 r202_5 r202_6 r202_7 x203_0 x203_1 x203_2 x203_3 x203_4 x203_5 qp_27.2.2)) := (M.hj _ _ _).trans (by kernel_rfl)
theorem hodmanlaw23_Client.J85_eq (M : Mach) (C : Call) (A2 : Int) (t7i : Nat) (t7o : Nat) (t8i : Nat) (t8o : Nat) (t8n : Nat) (t9i : Nat) (t9o : Nat) (t9n : Nat) (t10 : Nat) (t11 : Int) (t12 : Int) (t14 : Int) (t17 : Int) (t152 : Bool) (r202_0 : Int) (r202_1 : Int) (r202_2 : Int) (r202_3 : Int) (r202_4 : Int) (r202_5 : Int) (r202_6 : Int) (r202_7 : Int) (x203_0 : Int) (x203_1 : Int) (x203_2 : Int) (x203_3 : Int) (x203_4 : Int) (x203_5 : Int) (G : GH) : hodmanlaw23_Client.J85 M C A2 t7i t7o t8i t8o t8n t9i t9o t9n t10 t11 t12 t14 t17 t152 r202_0 r202_1 r202_2 r202_3 r202_4 r202_5 r202_6 r202_7 x203_0 x203_1 x203_2 x203_3 x203_4 x203_5 G = (bif t152 then (G.ents0 (.c (.int .i64)) t10).bind fun qes_28 => ((((some ((mapGet qes_28 (.c (.int .i64 t14))).getD (.c (.int .i64 0))))).bind V1.c?).bind (Cell.asI .i64)).bind fun qx_29 => hodmanlaw23_Client.L77 M C A2 t7i t7o t8i t8o t8n t9i t9o t9n t10 (IntKind.i64.wrap (t11 - qx_29)) t12 t14 t17 0 0 0 0 r202_0 r202_1 r202_2 r202_3 r202_4 r202_5 r202_6 r202_7 x203_0 x203_1 x203_2 x203_3 x203_4 x203_5 G else hodmanlaw23_Client.J93 M C A2 t7i t7o t8i t8o t8n t9i t9o t9n t10 t11 t12 t17 r202_0 r202_1 r202_2 r202_3 r202_4 r202_5 r202_6 r202_7 x203_0 x203_1 x203_2 x203_3 x203_4 x203_5 G) := (M.hj _ _ _).trans (by kernel_rfl)
theorem hodmanlaw23_Client.L77_eq (M : Mach) (C : Call) (A2 : Int) (t7i : Nat) (t7o : Nat) (t8i : Nat) (t8o : Nat) (t8n : Nat) (t9i : Nat) (t9o : Nat) (t9n : Nat) (t10 : Nat) (t11 : Int) (t12 : Int) (t14 : Int) (t17 : Int) (t18i : Nat) (t18o : Nat) (t18n : Nat) (t19 : Int) (r202_0 : Int) (r202_1 : Int) (r202_2 : Int) (r202_3 : Int) (r202_4 : Int) (r202_5 : Int) (r202_6 : Int) (r202_7 : Int) (x203_0 : Int) (x203_1 : Int) (x203_2 : Int) (x203_3 : Int) (x203_4 : Int) (x203_5 : Int) (G : GH) : hodmanlaw23_Client.L77 M C A2 t7i t7o t8i t8o t8n t9i t9o t9n t10 t11 t12 t14 t17 t18i t18o t18n t19 r202_0 r202_1 r202_2 r202_3 r202_4 r202_5 r202_6 r202_7 x203_0 x203_1 x203_2 x203_3 x203_4 x203_5 G = (bif decide (t19 < ((t9n : Nat) : Int)) then guardK (decide (0 ≤ t19 ∧ t19 < ((t9n : Nat) : Int))) (((G.ld t9i (t9o + Int.toNat t19 * 1)).bind (Cell.asI .i64)).bind fun qx_30 => bif (!decide (qx_30 = t14)) then guardK (decide (0 ≤ t19 ∧ t19 < ((t9n : Nat) : Int))) (((G.ld t9i (t9o + Int.toNat t19 * 1)).bind (Cell.asI .i64)).bind fun qx_31 => let qG_32 := G.alloc (.row [.int .i64 qx_31] false); (if 1 = 0 then some [] else qG_32.lds G.next 0 (1 * 1)).bind fun qnew_33 => guardK (decide (t18n + 1 ≤ most)) ((qG_32.app t18i t18o t18n 1 1 qnew_33).bind fun qp_34 => hodmanlaw23_Client.J74 M C A2 t7i t7o t8i t8o t8n t9i t9o t9n t10 t11 t12 t14 t17 qp_34.1 qp_34.2.1 (t18n + 1) t19 r202_0 r202_1 r202_2 r202_3 r202_4 r202_5 r202_6 r202_7 x203_0 x203_1 x203_2 x203_3 x203_4 x203_5 qp_34.2.2)) else hodmanlaw23_Client.J74 M C A2 t7i t7o t8i t8o t8n t9i t9o t9n t10 t11 t12 t14 t17 t18i t18o t18n t19 r202_0 r202_1 r202_2 r202_3 r202_4 r202_5 r202_6 r202_7 x203_0 x203_1 x203_2 x203_3 x203_4 x203_5 G) else hodmanlaw23_Client.J93 M C A2 t7i t7o t8i t8o t8n t18i t18o t18n t10 t11 t12 t17 r202_0 r202_1 r202_2 r202_3 r202_4 r202_5 r202_6 r202_7 x203_0 x203_1 x203_2 x203_3 x203_4 x203_5 G) := (M.hs _ _ _ _ _ _ _).trans (by kernel_rfl)
theorem hodmanlaw23_Client.J93_eq (M : Mach) (C : Call) (A2 : Int) (t7i : Nat) (t7o : Nat) (t8i : Nat) (t8o : Nat) (t8n : Nat) (t9i : Nat) (t9o : Nat) (t9n : Nat) (t10 : Nat) (t11 : Int) (t12 : Int) (t17 : Int) (r202_0 : Int) (r202_1 : Int) (r202_2 : Int) (r202_3 : Int) (r202_4 : Int) (r202_5 : Int) (r202_6 : Int) (r202_7 : Int) (x203_0 : Int) (x203_1 : Int) (x203_2 : Int) (x203_3 : Int) (x203_4 : Int) (x203_5 : Int) (G : GH) : hodmanlaw23_Client.J93 M C A2 t7i t7o t8i t8o t8n t9i t9o t9n t10 t11 t12 t17 r202_0 r202_1 r202_2 r202_3 r202_4 r202_5 r202_6 r202_7 x203_0 x203_1 x203_2 x203_3 x203_4 x203_5 G = (bif decide (x203_0 = 1) then hodmanlaw23_Client.J92 M C A2 t7i t7o t8i t8o t8n t9i t9o t9n t10 t11 t12 t17 true r202_0 r202_1 r202_2 r202_3 r202_4 r202_5 r202_6 r202_7 G else bif decide (x203_0 = 2) then hodmanlaw23_Client.J92 M C A2 t7i t7o t8i t8o t8n t9i t9o t9n t10 t11 t12 t17 true r202_0 r202_1 r202_2 r202_3 r202_4 r202_5 r202_6 r202_7 G else hodmanlaw23_Client.J92 M C A2 t7i t7o t8i t8o t8n t9i t9o t9n t10 t11 t12 t17 (decide (x203_0 = 4)) r202_0 r202_1 r202_2 r202_3 r202_4 r202_5 r202_6 r202_7 G) := (M.hj _ _ _).trans (by kernel_rfl)
theorem hodmanlaw23_Client.J74_eq (M : Mach) (C : Call) (A2 : Int) (t7i : Nat) (t7o : Nat) (t8i : Nat) (t8o : Nat) (t8n : Nat) (t9i : Nat) (t9o : Nat) (t9n : Nat) (t10 : Nat) (t11 : Int) (t12 : Int) (t14 : Int) (t17 : Int) (t18i : Nat) (t18o : Nat) (t18n : Nat) (t19 : Int) (r202_0 : Int) (r202_1 : Int) (r202_2 : Int) (r202_3 : Int) (r202_4 : Int) (r202_5 : Int) (r202_6 : Int) (r202_7 : Int) (x203_0 : Int) (x203_1 : Int) (x203_2 : Int) (x203_3 : Int) (x203_4 : Int) (x203_5 : Int) (G : GH) : hodmanlaw23_Client.J74 M C A2 t7i t7o t8i t8o t8n t9i t9o t9n t10 t11 t12 t14 t17 t18i t18o t18n t19 r202_0 r202_1 r202_2 r202_3 r202_4 r202_5 r202_6 r202_7 x203_0 x203_1 x203_2 x203_3 x203_4 x203_5 G = (hodmanlaw23_Client.L77 M C A2 t7i t7o t8i t8o t8n t9i t9o t9n t10 t11 t12 t14 t17 t18i t18o t18n (IntKind.i64.wrap (t19 + 1)) r202_0 r202_1 r202_2 r202_3 r202_4 r202_5 r202_6 r202_7 x203_0 x203_1 x203_2 x203_3 x203_4 x203_5 G) := (M.hj _ _ _).trans (by kernel_rfl)
theorem hodmanlaw23_Client.J92_eq (M : Mach) (C : Call) (A2 : Int) (t7i : Nat) (t7o : Nat) (t8i : Nat) (t8o : Nat) (t8n : Nat) (t9i : Nat) (t9o : Nat) (t9n : Nat) (t10 : Nat) (t11 : Int) (t12 : Int) (t17 : Int) (t190 : Bool) (r202_0 : Int) (r202_1 : Int) (r202_2 : Int) (r202_3 : Int) (r202_4 : Int) (r202_5 : Int) (r202_6 : Int) (r202_7 : Int) (G : GH) : hodmanlaw23_Client.J92 M C A2 t7i t7o t8i t8o t8n t9i t9o t9n t10 t11 t12 t17 t190 r202_0 r202_1 r202_2 r202_3 r202_4 r202_5 r202_6 r202_7 G = (bif t190 then let qG_35 := G.alloc (.row [.int .i64 t12] false); (if 1 = 0 then some [] else qG_35.lds G.next 0 (1 * 1)).bind fun qnew_36 => guardK (decide (t9n + 1 ≤ most)) ((qG_35.app t9i t9o t9n 1 1 qnew_36).bind fun qp_37 => (qp_37.2.2.ents (.c (.int .i64)) t10).bind fun qes_38 => let qG_39 := qp_37.2.2.set t10 (some (.map (.c (.int .i64)) (mapPut qes_38 (.c (.int .i64 t12)) (.c (.int .i64 t17))))); hodmanlaw23_Client.J106 M C A2 t7i t7o t8i t8o t8n qp_37.1 qp_37.2.1 (t9n + 1) t10 (IntKind.i64.wrap (t11 + t17)) t12 r202_0 r202_1 r202_2 r202_3 r202_4 r202_5 r202_6 r202_7 qG_39) else hodmanlaw23_Client.J106 M C A2 t7i t7o t8i t8o t8n t9i t9o t9n t10 t11 t12 r202_0 r202_1 r202_2 r202_3 r202_4 r202_5 r202_6 r202_7 G) := (M.hj _ _ _).trans (by kernel_rfl)
theorem hodmanlaw23_Client.J106_eq (M : Mach) (C : Call) (A2 : Int) (t7i : Nat) (t7o : Nat) (t8i : Nat) (t8o : Nat) (t8n : Nat) (t9i : Nat) (t9o : Nat) (t9n : Nat) (t10 : Nat) (t11 : Int) (t12 : Int) (r202_0 : Int) (r202_1 : Int) (r202_2 : Int) (r202_3 : Int) (r202_4 : Int) (r202_5 : Int) (r202_6 : Int) (r202_7 : Int) (G : GH) : hodmanlaw23_Client.J106 M C A2 t7i t7o t8i t8o t8n t9i t9o t9n t10 t11 t12 r202_0 r202_1 r202_2 r202_3 r202_4 r202_5 r202_6 r202_7 G = (hodmanlaw23_Client.L109 M C A2 t7i t7o t8i t8o t8n t9i t9o t9n t10 t11 (IntKind.i64.wrap (t12 + 1)) r202_0 r202_1 r202_2 r202_3 r202_4 r202_5 r202_6 r202_7 G) := (M.hj _ _ _).trans (by kernel_rfl)
def hodmanlaw23_Client.f (M : Mach) (C : Call) (t0_0 : Int) (t0_1 : Int) (t0_2 : Int) (t0_3 : Int) (t0_4 : Int) (t0_5 : Int) (t0_6 : Int) (t0_7 : Int) (o1i : Nat) (o1o : Nat) (o1n : Nat) (A2 : Int) (G : GH) : Option Res := (C hodmanplay_Made.id [.c (.sl 1 o1i o1o o1n)] G).bind fun qr_1 => (((qr_1.1[0]?).bind V1.c?).bind Cell.asP).bind fun qp_2 => let qG_3 := qr_1.2.alloc (.map (.c (.int .i64)) []); hodmanlaw23_Client.L109 M C A2 qp_2.1 qp_2.2 0 0 0 0 0 0 qr_1.2.next 0 0 t0_0 t0_1 t0_2 t0_3 t0_4 t0_5 t0_6 t0_7 qG_3
theorem hodmanlaw23_Client.eq (M : Mach) (C : Call) (t0_0 : Int) (t0_1 : Int) (t0_2 : Int) (t0_3 : Int) (t0_4 : Int) (t0_5 : Int) (t0_6 : Int) (t0_7 : Int) (o1i : Nat) (o1o : Nat) (o1n : Nat) (A2 : Int) (G : GH) : runF M C hodmanlaw23_Client.d [.agg [.int .i64 t0_0, .int .i64 t0_1, .int .i64 t0_2, .int .i64 t0_3, .int .i64 t0_4, .int .i64 t0_5, .int .i64 t0_6, .int .i64 t0_7], .c (.sl 1 o1i o1o o1n), .c (.int .i64 A2)] G = hodmanlaw23_Client.f M C t0_0 t0_1 t0_2 t0_3 t0_4 t0_5 t0_6 t0_7 o1i o1o o1n A2 G := by kernel_rfl

/- 27 hodman/hodmanref1.Of -/
def hodmanref1_Of.c13 : DCode := (.cond (.t 31) (.seq (.region [⟨0, some 32, .build [.int .i64 0, .int .i64 0, .int .i64 0, .int .i64 0, .int .i64 0, .int .i64 0, .int .i64 0, .int .i64 0] [], none⟩,
    ⟨1, none, .stL 2 123 (.t 32) 8, none⟩,
    ⟨2, some 3, .move (.k (.c (.int .i64 1))), none⟩]) .ret) .skip)
def hodmanref1_Of.c16 : DCode := (.region [⟨0, some 18, .move (.t 5), none⟩,
    ⟨1, some 19, .bin .add .i64 (.t 18) (.k (.c (.int .i64 1))), none⟩,
    ⟨2, some 5, .move (.t 19), none⟩])
def hodmanref1_Of.c18 : DCode := (.seq (.seq (.region [⟨0, some 16, .move (.t 5), none⟩,
    ⟨1, some 17, .cmp .lss .i64 (.t 16) (.k (.c (.int .i64 4))), none⟩]) (.cond (.t 17) .skip (.exit 0))) (.seq (.block 1 (.seq (.region [⟨0, some 20, .move (.t 4), none⟩,
    ⟨1, some 21, .move (.t 5), none⟩,
    ⟨2, some 22, .iaddr (.t 20) (.t 21) 1, none⟩,
    ⟨3, some 23, .ldG 22 (.c (.int .i64)), none⟩,
    ⟨4, some 24, .cmp .lss .i64 (.t 23) (.k (.c (.int .i64 1))), none⟩,
    ⟨5, some 25, .move (.t 24), none⟩,
    ⟨6, some 26, .move (.t 4), some (25, false)⟩,
    ⟨7, some 27, .move (.t 5), some (25, false)⟩,
    ⟨8, some 28, .iaddr (.t 26) (.t 27) 1, some (25, false)⟩,
    ⟨9, some 29, .ldG 28 (.c (.int .i64)), some (25, false)⟩,
    ⟨10, some 30, .cmp .gtr .i64 (.t 29) (.k (.c (.int .i64 65536))), some (25, false)⟩,
    ⟨11, some 31, .pick (.t 25) (.k (.c (.bool true))) (.t 30), none⟩]) (.cut [1, 2, 4, 5, 31, 122, 123] hodmanref1_Of.c13))) hodmanref1_Of.c16))
def hodmanref1_Of.c19 : DCode := (.loop [1, 2, 4, 5, 122, 123] hodmanref1_Of.c18)
def hodmanref1_Of.c27 : DCode := (.cond (.t 50) (.seq (.region [⟨0, some 51, .build [.int .i64 0, .int .i64 0, .int .i64 0, .int .i64 0, .int .i64 0, .int .i64 0, .int .i64 0, .int .i64 0] [], none⟩,
    ⟨1, none, .stL 2 123 (.t 51) 8, none⟩,
    ⟨2, some 3, .move (.k (.c (.int .i64 1))), none⟩]) .ret) .skip)
def hodmanref1_Of.c53 : DCode := (.seq (.region [⟨0, some 52, .faddr 1 4, none⟩,
    ⟨1, some 53, .ldL 52 122 (.c (.int .i64)), none⟩,
    ⟨2, some 54, .faddr 1 5, none⟩,
    ⟨3, some 55, .ldL 54 122 (.c (.int .i64)), none⟩,
    ⟨4, some 56, .build [.int .i64 0, .int .i64 0, .int .i64 0, .int .i64 0, .int .i64 0, .int .i64 0, .int .i64 0, .int .i64 0] [(5, 1, .t 53), (7, 1, .t 55)], none⟩,
    ⟨5, some 6, .boxz 124 [63, 67, 73, 77, 83, 87, 89, 96, 98, 100, 106, 107, 109, 111, 116, 117] [.int .i64 0, .int .i64 0, .int .i64 0, .int .i64 0, .int .i64 0, .int .i64 0, .int .i64 0, .int .i64 0], none⟩,
    ⟨6, none, .stL 6 124 (.t 56) 8, none⟩]) (.seq (.region [⟨0, some 58, .faddr 1 0, none⟩,
    ⟨1, some 59, .ldL 58 122 (.c (.int .i64)), none⟩,
    ⟨2, some 60, .call 42 [.t 59] [.c (.int .i64), .c (.bool)], none⟩,
    ⟨3, some 57, .move (.t 60), none⟩,
    ⟨4, some 61, .ext 57 0, none⟩,
    ⟨5, some 62, .ext 57 1, none⟩,
    ⟨6, some 63, .faddr 6 0, none⟩,
    ⟨7, none, .stL 63 124 (.t 61) 1, none⟩]) (.seq (.region [⟨0, some 65, .faddr 1 1, none⟩,
    ⟨1, some 66, .ldL 65 122 (.c (.int .i64)), none⟩,
    ⟨2, some 67, .faddr 6 0, none⟩,
    ⟨3, some 68, .ldL 67 124 (.c (.int .i64)), none⟩,
    ⟨4, some 69, .mx (.t 66) [.t 68], none⟩,
    ⟨5, some 70, .call 42 [.t 69] [.c (.int .i64), .c (.bool)], none⟩,
    ⟨6, some 64, .move (.t 70), none⟩,
    ⟨7, some 71, .ext 64 0, none⟩,
    ⟨8, some 72, .ext 64 1, none⟩,
    ⟨9, some 73, .faddr 6 1, none⟩,
    ⟨10, none, .stL 73 124 (.t 71) 1, none⟩]) (.seq (.region [⟨0, some 75, .faddr 1 3, none⟩,
    ⟨1, some 76, .ldL 75 122 (.c (.int .i64)), none⟩,
    ⟨2, some 77, .faddr 6 0, none⟩,
    ⟨3, some 78, .ldL 77 124 (.c (.int .i64)), none⟩,
    ⟨4, some 79, .mx (.t 76) [.t 78], none⟩,
    ⟨5, some 80, .call 42 [.t 79] [.c (.int .i64), .c (.bool)], none⟩,
    ⟨6, some 74, .move (.t 80), none⟩,
    ⟨7, some 81, .ext 74 0, none⟩,
    ⟨8, some 82, .ext 74 1, none⟩,
    ⟨9, some 83, .faddr 6 4, none⟩,
    ⟨10, none, .stL 83 124 (.t 81) 1, none⟩]) (.seq (.region [⟨0, some 85, .faddr 1 2, none⟩,
    ⟨1, some 86, .ldL 85 122 (.c (.int .i64)), none⟩,
    ⟨2, some 87, .faddr 6 1, none⟩,
    ⟨3, some 88, .ldL 87 124 (.c (.int .i64)), none⟩,
    ⟨4, some 89, .faddr 6 4, none⟩,
    ⟨5, some 90, .ldL 89 124 (.c (.int .i64)), none⟩,
    ⟨6, some 91, .mx (.t 88) [.t 90], none⟩,
    ⟨7, some 92, .bin .mul .i64 (.k (.c (.int .i64 2))) (.t 91), none⟩,
    ⟨8, some 93, .call 43 [.t 86, .t 92] [.c (.int .i64), .c (.bool)], none⟩,
    ⟨9, some 84, .move (.t 93), none⟩,
    ⟨10, some 94, .ext 84 0, none⟩,
    ⟨11, some 95, .ext 84 1, none⟩,
    ⟨12, some 96, .faddr 6 2, none⟩,
    ⟨13, none, .stL 96 124 (.t 94) 1, none⟩]) (.seq (.region [⟨0, some 98, .faddr 6 1, none⟩,
    ⟨1, some 99, .ldL 98 124 (.c (.int .i64)), none⟩,
    ⟨2, some 100, .faddr 6 0, none⟩,
    ⟨3, some 101, .ldL 100 124 (.c (.int .i64)), none⟩,
    ⟨4, some 102, .bin .quo .i64 (.t 99) (.t 101), none⟩,
    ⟨5, some 103, .call 44 [.t 102] [.c (.int .i64), .c (.bool)], none⟩,
    ⟨6, some 97, .move (.t 103), none⟩,
    ⟨7, some 104, .ext 97 0, none⟩,
    ⟨8, some 105, .ext 97 1, none⟩,
    ⟨9, some 106, .faddr 6 3, none⟩,
    ⟨10, none, .stL 106 124 (.t 104) 1, none⟩]) (.seq (.region [⟨0, some 107, .faddr 6 2, none⟩,
    ⟨1, some 108, .ldL 107 124 (.c (.int .i64)), none⟩,
    ⟨2, some 109, .faddr 6 3, none⟩,
    ⟨3, some 110, .ldL 109 124 (.c (.int .i64)), none⟩,
    ⟨4, some 111, .faddr 6 2, none⟩,
    ⟨5, some 112, .ldL 111 124 (.c (.int .i64)), none⟩,
    ⟨6, some 113, .bin .quo .i64 (.t 112) (.k (.c (.int .i64 2))), none⟩,
    ⟨7, some 114, .bin .mul .i64 (.t 110) (.t 113), none⟩,
    ⟨8, some 115, .bin .add .i64 (.t 108) (.t 114), none⟩,
    ⟨9, some 116, .faddr 6 6, none⟩,
    ⟨10, none, .stL 116 124 (.t 115) 1, none⟩]) (.seq (.seq (.region [⟨0, some 117, .faddr 6 6, none⟩,
    ⟨1, some 118, .ldL 117 124 (.c (.int .i64)), none⟩,
    ⟨2, some 119, .cmp .gtr .i64 (.t 118) (.k (.c (.int .i64 65536))), none⟩]) (.cond (.t 119) (.seq (.region [⟨0, some 120, .build [.int .i64 0, .int .i64 0, .int .i64 0, .int .i64 0, .int .i64 0, .int .i64 0, .int .i64 0, .int .i64 0] [], none⟩,
    ⟨1, none, .stL 2 123 (.t 120) 8, none⟩,
    ⟨2, some 3, .move (.k (.c (.int .i64 1))), none⟩]) .ret) .skip)) (.seq (.region [⟨0, some 121, .ldL 6 124 (.agg [.int .i64, .int .i64, .int .i64, .int .i64, .int .i64, .int .i64, .int .i64, .int .i64]), none⟩,
    ⟨1, none, .stL 2 123 (.t 121) 8, none⟩,
    ⟨2, some 3, .move (.k (.c (.int .i64 0))), none⟩]) .ret)))))))))
def hodmanref1_Of.c54 : DCode := (.seq (.seq (.region [⟨0, some 33, .faddr 1 4, none⟩,
    ⟨1, some 34, .ldL 33 122 (.c (.int .i64)), none⟩,
    ⟨2, some 35, .cmp .lss .i64 (.t 34) (.k (.c (.int .i64 0))), none⟩,
    ⟨3, some 36, .move (.t 35), none⟩,
    ⟨4, some 37, .faddr 1 4, some (36, false)⟩,
    ⟨5, some 38, .ldL 37 122 (.c (.int .i64)), some (36, false)⟩,
    ⟨6, some 39, .cmp .gtr .i64 (.t 38) (.k (.c (.int .i64 65536))), some (36, false)⟩,
    ⟨7, some 40, .pick (.t 36) (.k (.c (.bool true))) (.t 39), none⟩,
    ⟨8, some 41, .move (.t 40), none⟩,
    ⟨9, some 42, .faddr 1 5, some (41, false)⟩,
    ⟨10, some 43, .ldL 42 122 (.c (.int .i64)), some (41, false)⟩,
    ⟨11, some 44, .cmp .lss .i64 (.t 43) (.k (.c (.int .i64 0))), some (41, false)⟩,
    ⟨12, some 45, .pick (.t 41) (.k (.c (.bool true))) (.t 44), none⟩,
    ⟨13, some 46, .move (.t 45), none⟩,
    ⟨14, some 47, .faddr 1 5, some (46, false)⟩,
    ⟨15, some 48, .ldL 47 122 (.c (.int .i64)), some (46, false)⟩,
    ⟨16, some 49, .cmp .gtr .i64 (.t 48) (.k (.c (.int .i64 255))), some (46, false)⟩,
    ⟨17, some 50, .pick (.t 46) (.k (.c (.bool true))) (.t 49), none⟩]) (.cut [1, 2, 50, 122, 123] hodmanref1_Of.c27)) hodmanref1_Of.c53)
def hodmanref1_Of.d : DFn := { ntmps := 125, res := [.box 2 (some 8), .t 3], body := (.seq (.region [⟨0, some 1, .boxv 122 [7, 9, 11, 13, 33, 37, 42, 47, 52, 54, 58, 65, 75, 85] (.t 0) 6, none⟩,
    ⟨1, some 2, .boxz 123 [] [.int .i64 0, .int .i64 0, .int .i64 0, .int .i64 0, .int .i64 0, .int .i64 0, .int .i64 0, .int .i64 0], none⟩,
    ⟨2, some 3, .move (.k (.c (.int .i64 0))), none⟩]) (.seq (.region [⟨0, some 7, .faddr 1 0, none⟩,
    ⟨1, some 8, .ldL 7 122 (.c (.int .i64)), none⟩,
    ⟨2, some 9, .faddr 1 1, none⟩,
    ⟨3, some 10, .ldL 9 122 (.c (.int .i64)), none⟩,
    ⟨4, some 11, .faddr 1 2, none⟩,
    ⟨5, some 12, .ldL 11 122 (.c (.int .i64)), none⟩,
    ⟨6, some 13, .faddr 1 3, none⟩,
    ⟨7, some 14, .ldL 13 122 (.c (.int .i64)), none⟩,
    ⟨8, some 15, .bslice 4 1 [.int .i64 0, .int .i64 0, .int .i64 0, .int .i64 0] [(0, 1, .t 8), (1, 1, .t 10), (2, 1, .t 12), (3, 1, .t 14)], none⟩,
    ⟨9, some 4, .move (.t 15), none⟩]) (.seq (.seq (.region [⟨0, some 5, .move (.k (.c (.int .i64 0))), none⟩]) (.block 0 hodmanref1_Of.c19)) hodmanref1_Of.c54))) }
def hodmanref1_Of.k54 (M : Mach) (C : Call) : Kont := execC M.j C (M.ag C) hodmanref1_Of.c54 ({ exits := [], ret := retK hodmanref1_Of.d } : Env) (retK hodmanref1_Of.d)
def hodmanref1_Of.e20 (M : Mach) (C : Call) : Env := { exits := (0, (hodmanref1_Of.k54 M C)) :: (({ exits := [], ret := retK hodmanref1_Of.d } : Env)).exits, ret := (({ exits := [], ret := retK hodmanref1_Of.d } : Env)).ret }
def hodmanref1_Of.L19 (M : Mach) (C : Call) (l4i : Nat) (l4o : Nat) (l4n : Nat) (i5 : Int) (r122_0 : Int) (r122_1 : Int) (r122_2 : Int) (r122_3 : Int) (r122_4 : Int) (r122_5 : Int) (x123_0 : Int) (x123_1 : Int) (x123_2 : Int) (x123_3 : Int) (x123_4 : Int) (x123_5 : Int) (x123_6 : Int) (x123_7 : Int) (G : GH) : Option Res := M.ag C [1, 2, 4, 5, 122, 123] hodmanref1_Of.c18 (hodmanref1_Of.e20 M C) (hodmanref1_Of.k54 M C) [.und, .ref 122 0, .ref 123 0, .und, .v (.c (.sl 1 l4i l4o l4n)), .v (.c (.int .i64 i5)), .und, .und, .und, .und, .und, .und, .und, .und, .und, .und, .und, .und, .und, .und, .und, .und, .und, .und, .und, .und, .und, .und, .und, .und, .und, .und, .und, .und, .und, .und, .und, .und, .und, .und, .und, .und, .und, .und, .und, .und, .und, .und, .und, .und, .und, .und, .und, .und, .und, .und, .und, .und, .und, .und, .und, .und, .und, .und, .und, .und, .und, .und, .und, .und, .und, .und, .und, .und, .und, .und, .und, .und, .und, .und, .und, .und, .und, .und, .und, .und, .und, .und, .und, .und, .und, .und, .und, .und, .und, .und, .und, .und, .und, .und, .und, .und, .und, .und, .und, .und, .und, .und, .und, .und, .und, .und, .und, .und, .und, .und, .und, .und, .und, .und, .und, .und, .box [.int .i64 r122_0, .int .i64 r122_1, .int .i64 r122_2, .int .i64 r122_3, .int .i64 r122_4, .int .i64 r122_5], .box [.int .i64 x123_0, .int .i64 x123_1, .int .i64 x123_2, .int .i64 x123_3, .int .i64 x123_4, .int .i64 x123_5, .int .i64 x123_6, .int .i64 x123_7], .und] G
def hodmanref1_Of.k19 (M : Mach) (C : Call) : Kont := fun tm G => M.ag C [1, 2, 4, 5, 122, 123] hodmanref1_Of.c18 (hodmanref1_Of.e20 M C) (hodmanref1_Of.k54 M C) (restr [1, 2, 4, 5, 122, 123] 0 tm) G
def hodmanref1_Of.k16 (M : Mach) (C : Call) : Kont := execC M.j C (M.ag C) hodmanref1_Of.c16 (hodmanref1_Of.e20 M C) (hodmanref1_Of.k19 M C)
def hodmanref1_Of.e15 (M : Mach) (C : Call) : Env := { exits := (1, (hodmanref1_Of.k16 M C)) :: ((hodmanref1_Of.e20 M C)).exits, ret := ((hodmanref1_Of.e20 M C)).ret }
def hodmanref1_Of.J13 (M : Mach) (C : Call) (l4i : Nat) (l4o : Nat) (l4n : Nat) (i5 : Int) (t31 : Bool) (r122_0 : Int) (r122_1 : Int) (r122_2 : Int) (r122_3 : Int) (r122_4 : Int) (r122_5 : Int) (x123_0 : Int) (x123_1 : Int) (x123_2 : Int) (x123_3 : Int) (x123_4 : Int) (x123_5 : Int) (x123_6 : Int) (x123_7 : Int) (G : GH) : Option Res := M.j (execC M.j C (M.ag C) hodmanref1_Of.c13 (hodmanref1_Of.e15 M C) (hodmanref1_Of.k16 M C)) [.und, .ref 122 0, .ref 123 0, .und, .v (.c (.sl 1 l4i l4o l4n)), .v (.c (.int .i64 i5)), .und, .und, .und, .und, .und, .und, .und, .und, .und, .und, .und, .und, .und, .und, .und, .und, .und, .und, .und, .und, .und, .und, .und, .und, .und, .v (.c (.bool t31)), .und, .und, .und, .und, .und, .und, .und, .und, .und, .und, .und, .und, .und, .und, .und, .und, .und, .und, .und, .und, .und, .und, .und, .und, .und, .und, .und, .und, .und, .und, .und, .und, .und, .und, .und, .und, .und, .und, .und, .und, .und, .und, .und, .und, .und, .und, .und, .und, .und, .und, .und, .und, .und, .und, .und, .und, .und, .und, .und, .und, .und, .und, .und, .und, .und, .und, .und, .und, .und, .und, .und, .und, .und, .und, .und, .und, .und, .und, .und, .und, .und, .und, .und, .und, .und, .und, .und, .und, .und, .und, .box [.int .i64 r122_0, .int .i64 r122_1, .int .i64 r122_2, .int .i64 r122_3, .int .i64 r122_4, .int .i64 r122_5], .box [.int .i64 x123_0, .int .i64 x123_1, .int .i64 x123_2, .int .i64 x123_3, .int .i64 x123_4, .int .i64 x123_5, .int .i64 x123_6, .int .i64 x123_7], .und] G
def hodmanref1_Of.k53 (M : Mach) (C : Call) : Kont := execC M.j C (M.ag C) hodmanref1_Of.c53 ({ exits := [], ret := retK hodmanref1_Of.d } : Env) (retK hodmanref1_Of.d)
def hodmanref1_Of.J27 (M : Mach) (C : Call) (t50 : Bool) (r122_0 : Int) (r122_1 : Int) (r122_2 : Int) (r122_3 : Int) (r122_4 : Int) (r122_5 : Int) (x123_0 : Int) (x123_1 : Int) (x123_2 : Int) (x123_3 : Int) (x123_4 : Int) (x123_5 : Int) (x123_6 : Int) (x123_7 : Int) (G : GH) : Option Res := M.j (execC M.j C (M.ag C) hodmanref1_Of.c27 ({ exits := [], ret := retK hodmanref1_Of.d } : Env) (hodmanref1_Of.k53 M C)) [.und, .ref 122 0, .ref 123 0, .und, .und, .und, .und, .und, .und, .und, .und, .und, .und, .und, .und, .und, .und, .und, .und, .und, .und, .und, .und, .und, .und, .und, .und, .und, .und, .und, .und, .und, .und, .und, .und, .und, .und, .und, .und, .und, .und, .und, .und, .und, .und, .und, .und, .und, .und, .und, .v (.c (.bool t50)), .und, .und, .und, .und, .und, .und, .und, .und, .und, .und, .und, .und, .und, .und, .und, .und, .und, .und, .und, .und, .und, .und, .und, .und, .und, .und, .und, .und, .und, .und, .und, .und, .und, .und, .und, .und, .und, .und, .und, .und, .und, .und, .und, .und, .und, .und, .und, .und, .und, .und, .und, .und, .und, .und, .und, .und, .und, .und, .und, .und, .und, .und, .und, .und, .und, .und, .und, .und, .und, .und, .und, .box [.int .i64 r122_0, .int .i64 r122_1, .int .i64 r122_2, .int .i64 r122_3, .int .i64 r122_4, .int .i64 r122_5], .box [.int .i64 x123_0, .int .i64 x123_1, .int .i64 x123_2, .int .i64 x123_3, .int .i64 x123_4, .int .i64 x123_5, .int .i64 x123_6, .int .i64 x123_7], .und] G
theorem hodmanref1_Of.L19_eq (M : Mach) (C : Call) (l4i : Nat) (l4o : Nat) (l4n : Nat) (i5 : Int) (r122_0 : Int) (r122_1 : Int) (r122_2 : Int) (r122_3 : Int) (r122_4 : Int) (r122_5 : Int) (x123_0 : Int) (x123_1 : Int) (x123_2 : Int) (x123_3 : Int) (x123_4 : Int) (x123_5 : Int) (x123_6 : Int) (x123_7 : Int) (G : GH) : hodmanref1_Of.L19 M C l4i l4o l4n i5 r122_0 r122_1 r122_2 r122_3 r122_4 r122_5 x123_0 x123_1 x123_2 x123_3 x123_4 x123_5 x123_6 x123_7 G = (bif decide (i5 < 4) then guardK (decide (0 ≤ i5 ∧ i5 < ((l4n : Nat) : Int))) (((G.ld l4i (l4o + Int.toNat i5 * 1)).bind (Cell.asI .i64)).bind fun qx_2 => bif decide (qx_2 < 1) then hodmanref1_Of.J13 M C l4i l4o l4n i5 true r122_0 r122_1 r122_2 r122_3 r122_4 r122_5 x123_0 x123_1 x123_2 x123_3 x123_4 x123_5 x123_6 x123_7 G else guardK (decide (0 ≤ i5 ∧ i5 < ((l4n : Nat) : Int))) (((G.ld l4i (l4o + Int.toNat i5 * 1)).bind (Cell.asI .i64)).bind fun qx_3 => hodmanref1_Of.J13 M C l4i l4o l4n i5 (decide (qx_3 > 65536)) r122_0 r122_1 r122_2 r122_3 r122_4 r122_5 x123_0 x123_1 x123_2 x123_3 x123_4 x123_5 x123_6 x123_7 G)) else bif decide (r122_4 < 0) then hodmanref1_Of.J27 M C true r122_0 r122_1 r122_2 r122_3 r122_4 r122_5 x123_0 x123_1 x123_2 x123_3 x123_4 x123_5 x123_6 x123_7 G else bif decide (r122_4 > 65536) then hodmanref1_Of.J27 M C true r122_0 r122_1 r122_2 r122_3 r122_4 r122_5 x123_0 x123_1 x123_2 x123_3 x123_4 x123_5 x123_6 x123_7 G else bif decide (r122_5 < 0) then hodmanref1_Of.J27 M C true r122_0 r122_1 r122_2 r122_3 r122_4 r122_5 x123_0 x123_1 x123_2 x123_3 x123_4 x123_5 x123_6 x123_7 G else hodmanref1_Of.J27 M C (decide (r122_5 > 255)) r122_0 r122_1 r122_2 r122_3 r122_4 r122_5 x123_0 x123_1 x123_2 x123_3 x123_4 x123_5 x123_6 x123_7 G) := (M.hs _ _ _ _ _ _ _).trans (by kernel_rfl)
theorem hodmanref1_Of.J13_eq (M : Mach) (C : Call) (l4i : Nat) (l4o : Nat) (l4n : Nat) (i5 : Int) (t31 : Bool) (r122_0 : Int) (r122_1 : Int) (r122_2 : Int) (r122_3 : Int) (r122_4 : Int) (r122_5 : Int) (x123_0 : Int) (x123_1 : Int) (x123_2 : Int) (x123_3 : Int) (x123_4 : Int) (x123_5 : Int) (x123_6 : Int) (x123_7 : Int) (G : GH) : hodmanref1_Of.J13 M C l4i l4o l4n i5 t31 r122_0 r122_1 r122_2 r122_3 r122_4 r122_5 x123_0 x123_1 x123_2 x123_3 x123_4 x123_5 x123_6 x123_7 G = (bif t31 then some ([.agg [.int .i64 0, .int .i64 0, .int .i64 0, .int .i64 0, .int .i64 0, .int .i64 0, .int .i64 0, .int .i64 0], .c (.int .i64 1)], G) else hodmanref1_Of.L19 M C l4i l4o l4n (IntKind.i64.wrap (i5 + 1)) r122_0 r122_1 r122_2 r122_3 r122_4 r122_5 x123_0 x123_1 x123_2 x123_3 x123_4 x123_5 x123_6 x123_7 G) := (M.hj _ _ _).trans (by kernel_rfl)
theorem hodmanref1_Of.J27_eq (M : Mach) (C : Call) (t50 : Bool) (r122_0 : Int) (r122_1 : Int) (r122_2 : Int) (r122_3 : Int) (r122_4 : Int) (r122_5 : Int) (x123_0 : Int) (x123_1 : Int) (x123_2 : Int) (x123_3 : Int) (x123_4 : Int) (x123_5 : Int) (x123_6 : Int) (x123_7 : Int) (G : GH) : hodmanref1_Of.J27 M C t50 r122_0 r122_1 r122_2 r122_3 r122_4 r122_5 x123_0 x123_1 x123_2 x123_3 x123_4 x123_5 x123_6 x123_7 G = (bif t50 then some ([.agg [.int .i64 0, .int .i64 0, .int .i64 0, .int .i64 0, .int .i64 0, .int .i64 0, .int .i64 0, .int .i64 0], .c (.int .i64 1)], G) else (C hodmanref1_Up.id [.c (.int .i64 r122_0)] G).bind fun qr_4 => (((qr_4.1[0]?).bind V1.c?).bind (Cell.asI .i64)).bind fun qx_5 => (((qr_4.1[1]?).bind V1.c?).bind Cell.asB).bind fun qb_6 => (C hodmanref1_Up.id [.c (.int .i64 (mx2 r122_1 qx_5))] qr_4.2).bind fun qr_7 => (((qr_7.1[0]?).bind V1.c?).bind (Cell.asI .i64)).bind fun qx_8 => (((qr_7.1[1]?).bind V1.c?).bind Cell.asB).bind fun qb_9 => (C hodmanref1_Up.id [.c (.int .i64 (mx2 r122_3 qx_5))] qr_7.2).bind fun qr_10 => (((qr_10.1[0]?).bind V1.c?).bind (Cell.asI .i64)).bind fun qx_11 => (((qr_10.1[1]?).bind V1.c?).bind Cell.asB).bind fun qb_12 => (C hodmanref1_Round.id [.c (.int .i64 r122_2), .c (.int .i64 (IntKind.i64.wrap (2 * (mx2 qx_8 qx_11))))] qr_10.2).bind fun qr_13 => (((qr_13.1[0]?).bind V1.c?).bind (Cell.asI .i64)).bind fun qx_14 => (((qr_13.1[1]?).bind V1.c?).bind Cell.asB).bind fun qb_15 => (binD .quo .i64 qx_8 qx_5).bind fun qx_16 => (C hodmanref1_Log.id [.c (.int .i64 qx_16)] qr_13.2).bind fun qr_17 => (((qr_17.1[0]?).bind V1.c?).bind (Cell.asI .i64)).bind fun qx_18 => (((qr_17.1[1]?).bind V1.c?).bind Cell.asB).bind fun qb_19 => bif decide (IntKind.i64.wrap (qx_14 + (IntKind.i64.wrap (qx_18 * (IntKind.i64.wrap (Int.tdiv qx_14 2))))) > 65536) then some ([.agg [.int .i64 0, .int .i64 0, .int .i64 0, .int .i64 0, .int .i64 0, .int .i64 0, .int .i64 0, .int .i64 0], .c (.int .i64 1)], qr_17.2) else some ([.agg [.int .i64 qx_5, .int .i64 qx_8, .int .i64 qx_14, .int .i64 qx_18, .int .i64 qx_11, .int .i64 r122_4, .int .i64 (IntKind.i64.wrap (qx_14 + (IntKind.i64.wrap (qx_18 * (IntKind.i64.wrap (Int.tdiv qx_14 2)))))), .int .i64 r122_5], .c (.int .i64 0)], qr_17.2)) := (M.hj _ _ _).trans (by kernel_rfl)
def hodmanref1_Of.f (M : Mach) (C : Call) (r0_0 : Int) (r0_1 : Int) (r0_2 : Int) (r0_3 : Int) (r0_4 : Int) (r0_5 : Int) (G : GH) : Option Res := let qG_1 := G.alloc (.row [.int .i64 r0_0, .int .i64 r0_1, .int .i64 r0_2, .int .i64 r0_3] false); hodmanref1_Of.L19 M C G.next 0 4 0 r0_0 r0_1 r0_2 r0_3 r0_4 r0_5 0 0 0 0 0 0 0 0 qG_1
theorem hodmanref1_Of.eq (M : Mach) (C : Call) (r0_0 : Int) (r0_1 : Int) (r0_2 : Int) (r0_3 : Int) (r0_4 : Int) (r0_5 : Int) (G : GH) : runF M C hodmanref1_Of.d [.agg [.int .i64 r0_0, .int .i64 r0_1, .int .i64 r0_2, .int .i64 r0_3, .int .i64 r0_4, .int .i64 r0_5]] G = hodmanref1_Of.f M C r0_0 r0_1 r0_2 r0_3 r0_4 r0_5 G := by kernel_rfl

/- 4 hodman/hodmanlaw23.FairLess -/
def hodmanlaw23_FairLess.c13 : DCode := (.cond (.t 23) (.seq (.region [⟨0, some 6, .move (.k (.c (.bool true))), none⟩]) .ret) .skip)
def hodmanlaw23_FairLess.c45 : DCode := (.seq (.region [⟨0, some 25, .move (.t 0), none⟩,
    ⟨1, some 26, .call 13 [.t 25] [.c (.ptr)], none⟩,
    ⟨2, some 27, .call 19 [.t 26, .k (.c (.bool true))] [.agg [.int .i64, .int .i64, .int .i64, .int .i64, .int .i64, .int .i64, .int .i64, .int .i64], .agg [.int .i64, .int .i64, .int .i64, .int .i64, .int .i64, .int .i64]], none⟩,
    ⟨3, some 24, .move (.t 27), none⟩,
    ⟨4, some 28, .ext 24 0, none⟩,
    ⟨5, some 29, .ext 24 1, none⟩,
    ⟨6, some 7, .boxz 92 [30, 56] [.int .i64 0, .int .i64 0, .int .i64 0, .int .i64 0, .int .i64 0, .int .i64 0, .int .i64 0, .int .i64 0], none⟩,
    ⟨7, some 8, .boxz 93 [] [.int .i64 0, .int .i64 0, .int .i64 0, .int .i64 0, .int .i64 0, .int .i64 0], none⟩,
    ⟨8, none, .stL 7 92 (.t 28) 8, none⟩,
    ⟨9, none, .stL 8 93 (.t 29) 6, none⟩]) (.seq (.seq (.region [⟨0, some 30, .faddr 7 0, none⟩,
    ⟨1, some 31, .ldL 30 92 (.c (.int .i64)), none⟩,
    ⟨2, some 32, .cmp .eql .i64 (.t 31) (.k (.c (.int .i64 0))), none⟩]) (.cond (.t 32) (.seq (.region [⟨0, some 6, .move (.k (.c (.bool true))), none⟩]) .ret) .skip)) (.seq (.region [⟨0, some 33, .ldL 7 92 (.agg [.int .i64, .int .i64, .int .i64, .int .i64, .int .i64, .int .i64, .int .i64, .int .i64]), none⟩,
    ⟨1, some 34, .move (.t 1), none⟩,
    ⟨2, some 35, .call 16 [.t 33, .t 34, .k (.c (.int .i64 40))] [.c (.sl 6)], none⟩,
    ⟨3, some 9, .move (.t 35), none⟩]) (.seq (.seq (.region [⟨0, some 36, .ldL 7 92 (.agg [.int .i64, .int .i64, .int .i64, .int .i64, .int .i64, .int .i64, .int .i64, .int .i64]), none⟩,
    ⟨1, some 37, .move (.t 9), none⟩,
    ⟨2, some 38, .call 17 [.t 36, .t 37] [.c (.bool)], none⟩,
    ⟨3, some 39, .not (.t 38), none⟩]) (.cond (.t 39) (.seq (.region [⟨0, some 6, .move (.k (.c (.bool true))), none⟩]) .ret) .skip)) (.seq (.region [⟨0, some 40, .move (.t 2), none⟩,
    ⟨1, some 41, .conv .i64 (.t 40), none⟩,
    ⟨2, some 42, .move (.t 9), none⟩,
    ⟨3, some 43, .len (.t 42), none⟩,
    ⟨4, some 44, .bin .add .i64 (.t 43) (.k (.c (.int .i64 1))), none⟩,
    ⟨5, some 45, .bin .rem .i64 (.t 41) (.t 44), none⟩,
    ⟨6, some 10, .move (.t 45), none⟩]) (.seq (.region [⟨0, some 46, .bslice 0 6 [] [], none⟩,
    ⟨1, some 47, .move (.t 9), none⟩,
    ⟨2, some 48, .app (.t 46) (.t 47) 6 48, none⟩,
    ⟨3, some 49, .build [.int .i64 0, .int .i64 0, .int .i64 0, .int .i64 0, .int .i64 0, .int .u8 0] [(0, 1, .k (.c (.int .i64 9)))], none⟩,
    ⟨4, some 50, .build [.int .i64 0, .int .i64 0, .int .i64 0, .int .i64 0, .int .i64 0, .int .u8 0] [(0, 1, .k (.c (.int .i64 10)))], none⟩,
    ⟨5, some 51, .bslice 2 6 [.int .i64 0, .int .i64 0, .int .i64 0, .int .i64 0, .int .i64 0, .int .u8 0, .int .i64 0, .int .i64 0, .int .i64 0, .int .i64 0, .int .i64 0, .int .u8 0] [(0, 6, .t 49), (6, 6, .t 50)], none⟩,
    ⟨6, some 52, .app (.t 48) (.t 51) 6 48, none⟩,
    ⟨7, some 11, .move (.t 52), none⟩]) (.seq (.region [⟨0, some 53, .bslice 0 6 [] [], none⟩,
    ⟨1, some 54, .move (.t 9), none⟩,
    ⟨2, some 55, .app (.t 53) (.t 54) 6 48, none⟩,
    ⟨3, some 56, .faddr 7 1, none⟩,
    ⟨4, some 57, .ldL 56 92 (.c (.int .i64)), none⟩,
    ⟨5, some 58, .bin .add .i64 (.t 57) (.k (.c (.int .i64 1))), none⟩,
    ⟨6, some 59, .build [.int .i64 0, .int .i64 0, .int .i64 0, .int .i64 0, .int .i64 0, .int .u8 0] [(0, 1, .k (.c (.int .i64 1))), (2, 1, .t 58)], none⟩,
    ⟨7, some 60, .bslice 1 6 [.int .i64 0, .int .i64 0, .int .i64 0, .int .i64 0, .int .i64 0, .int .u8 0] [(0, 6, .t 59)], none⟩,
    ⟨8, some 61, .app (.t 55) (.t 60) 6 48, none⟩,
    ⟨9, some 12, .move (.t 61), none⟩]) (.seq (.region [⟨0, some 62, .bslice 0 6 [] [], none⟩,
    ⟨1, some 63, .move (.t 9), none⟩,
    ⟨2, some 64, .app (.t 62) (.t 63) 6 48, none⟩,
    ⟨3, some 65, .move (.t 9), none⟩,
    ⟨4, some 66, .len (.t 65), none⟩,
    ⟨5, some 67, .build [.int .i64 0, .int .i64 0, .int .i64 0, .int .i64 0, .int .i64 0, .int .u8 0] [(0, 1, .k (.c (.int .i64 5))), (1, 1, .t 66)], none⟩,
    ⟨6, some 68, .bslice 1 6 [.int .i64 0, .int .i64 0, .int .i64 0, .int .i64 0, .int .i64 0, .int .u8 0] [(0, 6, .t 67)], none⟩,
    ⟨7, some 69, .app (.t 64) (.t 68) 6 48, none⟩,
    ⟨8, some 13, .move (.t 69), none⟩]) (.seq (.region [⟨0, some 70, .ldL 7 92 (.agg [.int .i64, .int .i64, .int .i64, .int .i64, .int .i64, .int .i64, .int .i64, .int .i64]), none⟩,
    ⟨1, some 71, .move (.t 9), none⟩,
    ⟨2, some 72, .move (.t 10), none⟩,
    ⟨3, some 73, .slice (.t 71) none (some (.t 72)) 6, none⟩,
    ⟨4, some 74, .call 17 [.t 70, .t 73] [.c (.bool)], none⟩,
    ⟨5, some 75, .move (.t 74), none⟩,
    ⟨6, some 76, .ldL 7 92 (.agg [.int .i64, .int .i64, .int .i64, .int .i64, .int .i64, .int .i64, .int .i64, .int .i64]), some (75, true)⟩,
    ⟨7, some 77, .move (.t 11), some (75, true)⟩,
    ⟨8, some 78, .call 17 [.t 76, .t 77] [.c (.bool)], some (75, true)⟩,
    ⟨9, some 79, .pick (.t 75) (.t 78) (.k (.c (.bool false))), none⟩,
    ⟨10, some 80, .move (.t 79), none⟩,
    ⟨11, some 81, .ldL 7 92 (.agg [.int .i64, .int .i64, .int .i64, .int .i64, .int .i64, .int .i64, .int .i64, .int .i64]), some (80, true)⟩,
    ⟨12, some 82, .move (.t 12), some (80, true)⟩,
    ⟨13, some 83, .call 17 [.t 81, .t 82] [.c (.bool)], some (80, true)⟩,
    ⟨14, some 84, .not (.t 83), some (80, true)⟩,
    ⟨15, some 85, .pick (.t 80) (.t 84) (.k (.c (.bool false))), none⟩,
    ⟨16, some 86, .move (.t 85), none⟩,
    ⟨17, some 87, .ldL 7 92 (.agg [.int .i64, .int .i64, .int .i64, .int .i64, .int .i64, .int .i64, .int .i64, .int .i64]), some (86, true)⟩,
    ⟨18, some 88, .move (.t 13), some (86, true)⟩,
    ⟨19, some 89, .call 17 [.t 87, .t 88] [.c (.bool)], some (86, true)⟩,
    ⟨20, some 90, .not (.t 89), some (86, true)⟩,
    ⟨21, some 91, .pick (.t 86) (.t 90) (.k (.c (.bool false))), none⟩,
    ⟨22, some 6, .move (.t 91), none⟩]) .ret)))))))))
def hodmanlaw23_FairLess.d : DFn := { ntmps := 94, res := [.t 6], body := (.seq (.region [⟨0, some 6, .move (.k (.c (.bool false))), none⟩]) (.seq (.seq (.region [⟨0, some 14, .call 12 [] [.c (.bool)], none⟩,
    ⟨1, some 15, .not (.t 14), none⟩]) (.cond (.t 15) (.seq (.region [⟨0, some 6, .move (.k (.c (.bool false))), none⟩]) .ret) .skip)) (.seq (.seq (.region [⟨0, some 16, .move (.t 0), none⟩,
    ⟨1, some 17, .len (.t 16), none⟩,
    ⟨2, some 18, .cmp .gtr .i64 (.t 17) (.k (.c (.int .i64 6))), none⟩,
    ⟨3, some 19, .move (.t 18), none⟩,
    ⟨4, some 20, .move (.t 1), some (19, false)⟩,
    ⟨5, some 21, .len (.t 20), some (19, false)⟩,
    ⟨6, some 22, .cmp .gtr .i64 (.t 21) (.k (.c (.int .i64 150))), some (19, false)⟩,
    ⟨7, some 23, .pick (.t 19) (.k (.c (.bool true))) (.t 22), none⟩]) (.cut [0, 1, 2, 23] hodmanlaw23_FairLess.c13)) hodmanlaw23_FairLess.c45))) }
def hodmanlaw23_FairLess.k45 (M : Mach) (C : Call) : Kont := execC M.j C (M.ag C) hodmanlaw23_FairLess.c45 ({ exits := [], ret := retK hodmanlaw23_FairLess.d } : Env) (retK hodmanlaw23_FairLess.d)
def hodmanlaw23_FairLess.J13 (M : Mach) (C : Call) (raw0i : Nat) (raw0o : Nat) (raw0n : Nat) (picks1i : Nat) (picks1o : Nat) (picks1n : Nat) (cut2 : Int) (t23 : Bool) (G : GH) : Option Res := M.j (execC M.j C (M.ag C) hodmanlaw23_FairLess.c13 ({ exits := [], ret := retK hodmanlaw23_FairLess.d } : Env) (hodmanlaw23_FairLess.k45 M C)) [.v (.c (.sl 1 raw0i raw0o raw0n)), .v (.c (.sl 1 picks1i picks1o picks1n)), .v (.c (.int .u8 cut2)), .und, .und, .und, .und, .und, .und, .und, .und, .und, .und, .und, .und, .und, .und, .und, .und, .und, .und, .und, .und, .v (.c (.bool t23)), .und, .und, .und, .und, .und, .und, .und, .und, .und, .und, .und, .und, .und, .und, .und, .und, .und, .und, .und, .und, .und, .und, .und, .und, .und, .und, .und, .und, .und, .und, .und, .und, .und, .und, .und, .und, .und, .und, .und, .und, .und, .und, .und, .und, .und, .und, .und, .und, .und, .und, .und, .und, .und, .und, .und, .und, .und, .und, .und, .und, .und, .und, .und, .und, .und, .und, .und, .und, .und, .und] G
theorem hodmanlaw23_FairLess.J13_eq (M : Mach) (C : Call) (raw0i : Nat) (raw0o : Nat) (raw0n : Nat) (picks1i : Nat) (picks1o : Nat) (picks1n : Nat) (cut2 : Int) (t23 : Bool) (G : GH) : hodmanlaw23_FairLess.J13 M C raw0i raw0o raw0n picks1i picks1o picks1n cut2 t23 G = (bif t23 then some ([.c (.bool true)], G) else (C hodmanplay_Made.id [.c (.sl 1 raw0i raw0o raw0n)] G).bind fun qr_3 => (((qr_3.1[0]?).bind V1.c?).bind Cell.asP).bind fun qp_4 => (C hodmanplay_Picks_Conf.id [.c (.ptr qp_4.1 qp_4.2), .c (.bool true)] qr_3.2).bind fun qr_5 => ((qr_5.1[0]?).bind V1.a?).bind fun qcs_6 => if qcs_6.length = 8 then (((qcs_6[0]?).bind (Cell.asI .i64)).bind fun qx_7 => ((qcs_6[1]?).bind (Cell.asI .i64)).bind fun qx_8 => ((qcs_6[2]?).bind (Cell.asI .i64)).bind fun qx_9 => ((qcs_6[3]?).bind (Cell.asI .i64)).bind fun qx_10 => ((qcs_6[4]?).bind (Cell.asI .i64)).bind fun qx_11 => ((qcs_6[5]?).bind (Cell.asI .i64)).bind fun qx_12 => ((qcs_6[6]?).bind (Cell.asI .i64)).bind fun qx_13 => ((qcs_6[7]?).bind (Cell.asI .i64)).bind fun qx_14 => ((qr_5.1[1]?).bind V1.a?).bind fun qcs_15 => if qcs_15.length = 6 then (((qcs_15[0]?).bind (Cell.asI .i64)).bind fun qx_16 => ((qcs_15[1]?).bind (Cell.asI .i64)).bind fun qx_17 => ((qcs_15[2]?).bind (Cell.asI .i64)).bind fun qx_18 => ((qcs_15[3]?).bind (Cell.asI .i64)).bind fun qx_19 => ((qcs_15[4]?).bind (Cell.asI .i64)).bind fun qx_20 => ((qcs_15[5]?).bind (Cell.asI .i64)).bind fun qx_21 => bif decide (qx_7 = 0) then some ([.c (.bool true)], qr_5.2) else (C hodmanlaw23_Client.id [.agg [.int .i64 qx_7, .int .i64 qx_8, .int .i64 qx_9, .int .i64 qx_10, .int .i64 qx_11, .int .i64 qx_12, .int .i64 qx_13, .int .i64 qx_14], .c (.sl 1 picks1i picks1o picks1n), .c (.int .i64 40)] qr_5.2).bind fun qr_22 => (((qr_22.1[0]?).bind V1.c?).bind (Cell.asS 6)).bind fun qs_23 => (C fair_May.id [.agg [.int .i64 qx_7, .int .i64 qx_8, .int .i64 qx_9, .int .i64 qx_10, .int .i64 qx_11, .int .i64 qx_12, .int .i64 qx_13, .int .i64 qx_14], .c (.sl 6 qs_23.1 qs_23.2.1 qs_23.2.2)] qr_22.2).bind fun qr_24 => (((qr_24.1[0]?).bind V1.c?).bind Cell.asB).bind fun qb_25 => bif (!qb_25) then some ([.c (.bool true)], qr_24.2) else (binD .rem .i64 (IntKind.i64.wrap cut2) (IntKind.i64.wrap (((qs_23.2.2 : Nat) : Int) + 1))).bind fun qx_26 => let qG_27 := qr_24.2.alloc (.row [] false); (if qs_23.2.2 = 0 then some [] else qG_27.lds qs_23.1 qs_23.2.1 (qs_23.2.2 * 6)).bind fun qnew_28 => guardK (decide (0 + qs_23.2.2 ≤ most)) ((qG_27.app qr_24.2.next 0 0 6 qs_23.2.2 qnew_28).bind fun qp_29 => let qG_30 := qp_29.2.2.alloc (.row [.int .i64 9, .int .i64 0, .int .i64 0, .int .i64 0, .int .i64 0, .int .u8 0, .int .i64 10, .int .i64 0, .int .i64 0, .int .i64 0, .int .i64 0, .int .u8 0] false); (if 2 = 0 then some [] else qG_30.lds qp_29.2.2.next 0 (2 * 6)).bind fun qnew_31 => guardK (decide ((0 + qs_23.2.2) + 2 ≤ most)) ((qG_30.app qp_29.1 qp_29.2.1 (0 + qs_23.2.2) 6 2 qnew_31).bind fun qp_32 => let qG_33 := qp_32.2.2.alloc (.row [] false); (if qs_23.2.2 = 0 then some [] else qG_33.lds qs_23.1 qs_23.2.1 (qs_23.2.2 * 6)).bind fun qnew_34 => guardK (decide (0 + qs_23.2.2 ≤ most)) ((qG_33.app qp_32.2.2.next 0 0 6 qs_23.2.2 qnew_34).bind fun qp_35 => let qG_36 := qp_35.2.2.alloc (.row [.int .i64 1, .int .i64 0, .int .i64 (IntKind.i64.wrap (qx_8 + 1)), .int .i64 0, .int .i64 0, .int .u8 0] false); (if 1 = 0 then some [] else qG_36.lds qp_35.2.2.next 0 (1 * 6)).bind fun qnew_37 => guardK (decide ((0 + qs_23.2.2) + 1 ≤ most)) ((qG_36.app qp_35.1 qp_35.2.1 (0 + qs_23.2.2) 6 1 qnew_37).bind fun qp_38 => let qG_39 := qp_38.2.2.alloc (.row [] false); (if qs_23.2.2 = 0 then some [] else qG_39.lds qs_23.1 qs_23.2.1 (qs_23.2.2 * 6)).bind fun qnew_40 => guardK (decide (0 + qs_23.2.2 ≤ most)) ((qG_39.app qp_38.2.2.next 0 0 6 qs_23.2.2 qnew_40).bind fun qp_41 => let qG_42 := qp_41.2.2.alloc (.row [.int .i64 5, .int .i64 ((qs_23.2.2 : Nat) : Int), .int .i64 0, .int .i64 0, .int .i64 0, .int .u8 0] false); (if 1 = 0 then some [] else qG_42.lds qp_41.2.2.next 0 (1 * 6)).bind fun qnew_43 => guardK (decide ((0 + qs_23.2.2) + 1 ≤ most)) ((qG_42.app qp_41.1 qp_41.2.1 (0 + qs_23.2.2) 6 1 qnew_43).bind fun qp_44 => guardK (decide (0 ≤ (0 : Int) ∧ (0 : Int) ≤ qx_26 ∧ qx_26 ≤ ((qs_23.2.2 : Nat) : Int))) ((C fair_May.id [.agg [.int .i64 qx_7, .int .i64 qx_8, .int .i64 qx_9, .int .i64 qx_10, .int .i64 qx_11, .int .i64 qx_12, .int .i64 qx_13, .int .i64 qx_14], .c (.sl 6 qs_23.1 (qs_23.2.1 + Int.toNat 0 * 6) (Int.toNat qx_26 - Int.toNat 0))] qp_44.2.2).bind fun qr_45 => (((qr_45.1[0]?).bind V1.c?).bind Cell.asB).bind fun qb_46 => bif qb_46 then (C fair_May.id [.agg [.int .i64 qx_7, .int .i64 qx_8, .int .i64 qx_9, .int .i64 qx_10, .int .i64 qx_11, .int .i64 qx_12, .int .i64 qx_13, .int .i64 qx_14], .c (.sl 6 qp_32.1 qp_32.2.1 ((0 + qs_23.2.2) + 2))] qr_45.2).bind fun qr_47 => (((qr_47.1[0]?).bind V1.c?).bind Cell.asB).bind fun qb_48 => bif qb_48 then (C fair_May.id [.agg [.int .i64 qx_7, .int .i64 qx_8, .int .i64 qx_9, .int .i64 qx_10, .int .i64 qx_11, .int .i64 qx_12, .int .i64 qx_13, .int .i64 qx_14], .c (.sl 6 qp_38.1 qp_38.2.1 ((0 + qs_23.2.2) + 1))] qr_47.2).bind fun qr_49 => (((qr_49.1[0]?).bind V1.c?).bind Cell.asB).bind fun qb_50 => bif (!qb_50) then (C fair_May.id [.agg [.int .i64 qx_7, .int .i64 qx_8, .int .i64 qx_9, .int .i64 qx_10, .int .i64 qx_11, .int .i64 qx_12, .int .i64 qx_13, .int .i64 qx_14], .c (.sl 6 qp_44.1 qp_44.2.1 ((0 + qs_23.2.2) + 1))] qr_49.2).bind fun qr_51 => (((qr_51.1[0]?).bind V1.c?).bind Cell.asB).bind fun qb_52 => some ([.c (.bool (!qb_52))], qr_51.2) else some ([.c (.bool false)], qr_49.2) else some ([.c (.bool false)], qr_47.2) else some ([.c (.bool false)], qr_45.2))))))))) else none) else none) := (M.hj _ _ _).trans (by kernel_rfl)
def hodmanlaw23_FairLess.f (M : Mach) (C : Call) (raw0i : Nat) (raw0o : Nat) (raw0n : Nat) (picks1i : Nat) (picks1o : Nat) (picks1n : Nat) (cut2 : Int) (G : GH) : Option Res := (C hodmanlaw23_begun.id [] G).bind fun qr_1 => (((qr_1.1[0]?).bind V1.c?).bind Cell.asB).bind fun qb_2 => bif (!qb_2) then some ([.c (.bool false)], qr_1.2) else bif decide (((raw0n : Nat) : Int) > 6) then hodmanlaw23_FairLess.J13 M C raw0i raw0o raw0n picks1i picks1o picks1n cut2 true qr_1.2 else hodmanlaw23_FairLess.J13 M C raw0i raw0o raw0n picks1i picks1o picks1n cut2 (decide (((picks1n : Nat) : Int) > 150)) qr_1.2
theorem hodmanlaw23_FairLess.eq (M : Mach) (C : Call) (raw0i : Nat) (raw0o : Nat) (raw0n : Nat) (picks1i : Nat) (picks1o : Nat) (picks1n : Nat) (cut2 : Int) (G : GH) : runF M C hodmanlaw23_FairLess.d [.c (.sl 1 raw0i raw0o raw0n), .c (.sl 1 picks1i picks1o picks1n), .c (.int .u8 cut2)] G = hodmanlaw23_FairLess.f M C raw0i raw0o raw0n picks1i picks1o picks1n cut2 G := by kernel_rfl

/- 30 (*hodman/fair.client).does -/
def fair_client_does.c42 : DCode := (.cond (.t 90) (.seq (.region [⟨0, some 6, .move (.k (.c (.bool true))), none⟩]) .ret) .skip)
def fair_client_does.c44 : DCode := (.cond (.t 75) (.seq (.region [⟨0, some 78, .move (.t 8), none⟩,
    ⟨1, some 79, .move (.t 78), none⟩,
    ⟨2, some 80, .faddr 5 4, some (79, true)⟩,
    ⟨3, some 81, .ldL 80 93 (.c (.int .i64)), some (79, true)⟩,
    ⟨4, some 82, .cmp .geq .i64 (.t 81) (.k (.c (.int .i64 0))), some (79, true)⟩,
    ⟨5, some 83, .pick (.t 79) (.t 82) (.k (.c (.bool false))), none⟩,
    ⟨6, some 84, .move (.t 83), none⟩,
    ⟨7, some 85, .faddr 5 4, some (84, true)⟩,
    ⟨8, some 86, .ldL 85 93 (.c (.int .i64)), some (84, true)⟩,
    ⟨9, some 87, .move (.t 7), some (84, true)⟩,
    ⟨10, some 88, .cmp .lss .i64 (.t 86) (.t 87), some (84, true)⟩,
    ⟨11, some 89, .pick (.t 84) (.t 88) (.k (.c (.bool false))), none⟩,
    ⟨12, some 6, .move (.t 89), none⟩]) .ret) (.seq (.seq (.region [⟨0, some 91, .cmp .eql .i64 (.t 23) (.k (.c (.int .i64 9))), none⟩,
    ⟨1, some 90, .move (.t 91), none⟩]) (.cond (.t 90) .skip (.region [⟨0, some 92, .cmp .eql .i64 (.t 23) (.k (.c (.int .i64 10))), none⟩,
    ⟨1, some 90, .move (.t 92), none⟩]))) (.cut [90] fair_client_does.c42)))
def fair_client_does.c60 : DCode := (.seq (.region [⟨0, some 6, .move (.k (.c (.bool false))), none⟩]) .ret)
def fair_client_does.d : DFn := { ntmps := 94, res := [.t 6], body := (.seq (.region [⟨0, some 5, .boxv 93 [16, 22, 28, 38, 40, 56, 62, 69, 80, 85] (.t 2) 6, none⟩,
    ⟨1, some 6, .move (.k (.c (.bool false))), none⟩]) (.seq (.region [⟨0, some 12, .move (.t 0), none⟩,
    ⟨1, some 13, .nilck (.t 12), none⟩,
    ⟨2, some 14, .faddr 13 8, none⟩,
    ⟨3, some 15, .ldG 14 (.c (.map)), none⟩,
    ⟨4, some 16, .faddr 5 1, none⟩,
    ⟨5, some 17, .ldL 16 93 (.c (.int .i64)), none⟩,
    ⟨6, some 18, .build [.int .i64 0] [(0, 1, .t 17)], none⟩,
    ⟨7, some 19, .lkup (.agg [.int .i64]) (.t 15) (.t 18) (.c (.int .i64 0)) (.c (.int .i64)) true, none⟩,
    ⟨8, some 11, .move (.t 19), none⟩,
    ⟨9, some 20, .ext 11 0, none⟩,
    ⟨10, some 21, .ext 11 1, none⟩,
    ⟨11, some 7, .move (.t 20), none⟩,
    ⟨12, some 8, .move (.t 21), none⟩]) (.seq (.seq (.region [⟨0, some 22, .faddr 5 0, none⟩,
    ⟨1, some 23, .ldL 22 93 (.c (.int .i64)), none⟩]) (.block 0 (.seq (.region [⟨0, some 25, .cmp .eql .i64 (.t 23) (.k (.c (.int .i64 1))), none⟩,
    ⟨1, some 24, .move (.t 25), none⟩]) (.cond (.t 24) (.seq (.region [⟨0, some 26, .move (.t 0), none⟩,
    ⟨1, some 27, .move (.t 1), none⟩,
    ⟨2, some 28, .faddr 5 2, none⟩,
    ⟨3, some 29, .ldL 28 93 (.c (.int .i64)), none⟩,
    ⟨4, some 30, .call 45 [.t 26, .t 27, .t 29] [.c (.bool)], none⟩,
    ⟨5, some 6, .move (.t 30), none⟩]) .ret) (.seq (.region [⟨0, some 32, .cmp .eql .i64 (.t 23) (.k (.c (.int .i64 2))), none⟩,
    ⟨1, some 31, .move (.t 32), none⟩]) (.cond (.t 31) (.seq (.region [⟨0, some 34, .move (.t 0), none⟩,
    ⟨1, some 35, .nilck (.t 34), none⟩,
    ⟨2, some 36, .faddr 35 0, none⟩,
    ⟨3, some 37, .ldG 36 (.agg [.int .i64, .int .i64, .int .i64, .int .i64, .int .i64, .int .i64, .int .i64, .int .i64]), none⟩,
    ⟨4, some 38, .faddr 5 4, none⟩,
    ⟨5, some 39, .ldL 38 93 (.c (.int .i64)), none⟩,
    ⟨6, some 40, .faddr 5 2, none⟩,
    ⟨7, some 41, .ldL 40 93 (.c (.int .i64)), none⟩,
    ⟨8, some 42, .call 46 [.t 37, .t 39, .t 41] [.c (.int .i64), .c (.int .i64)], none⟩,
    ⟨9, some 33, .move (.t 42), none⟩,
    ⟨10, some 43, .ext 33 0, none⟩,
    ⟨11, some 44, .ext 33 1, none⟩,
    ⟨12, some 9, .move (.t 43), none⟩,
    ⟨13, some 10, .move (.t 44), none⟩]) (.seq (.region [⟨0, some 45, .move (.t 10), none⟩,
    ⟨1, some 46, .cmp .eql .i64 (.t 45) (.k (.c (.int .i64 0))), none⟩,
    ⟨2, some 47, .move (.t 46), none⟩,
    ⟨3, some 48, .move (.t 0), some (47, true)⟩,
    ⟨4, some 49, .move (.t 1), some (47, true)⟩,
    ⟨5, some 50, .move (.t 9), some (47, true)⟩,
    ⟨6, some 51, .call 45 [.t 48, .t 49, .t 50] [.c (.bool)], some (47, true)⟩,
    ⟨7, some 52, .pick (.t 47) (.t 51) (.k (.c (.bool false))), none⟩,
    ⟨8, some 6, .move (.t 52), none⟩]) .ret)) (.seq (.region [⟨0, some 54, .cmp .eql .i64 (.t 23) (.k (.c (.int .i64 4))), none⟩,
    ⟨1, some 53, .move (.t 54), none⟩]) (.cond (.t 53) (.seq (.region [⟨0, some 55, .move (.t 0), none⟩,
    ⟨1, some 56, .faddr 5 1, none⟩,
    ⟨2, some 57, .ldL 56 93 (.c (.int .i64)), none⟩,
    ⟨3, some 58, .call 47 [.t 55, .t 57] [.c (.bool)], none⟩,
    ⟨4, some 59, .move (.t 58), none⟩,
    ⟨5, some 60, .move (.t 0), some (59, true)⟩,
    ⟨6, some 61, .move (.t 1), some (59, true)⟩,
    ⟨7, some 62, .faddr 5 2, some (59, true)⟩,
    ⟨8, some 63, .ldL 62 93 (.c (.int .i64)), some (59, true)⟩,
    ⟨9, some 64, .call 45 [.t 60, .t 61, .t 63] [.c (.bool)], some (59, true)⟩,
    ⟨10, some 65, .pick (.t 59) (.t 64) (.k (.c (.bool false))), none⟩,
    ⟨11, some 6, .move (.t 65), none⟩]) .ret) (.seq (.region [⟨0, some 67, .cmp .eql .i64 (.t 23) (.k (.c (.int .i64 5))), none⟩,
    ⟨1, some 66, .move (.t 67), none⟩]) (.cond (.t 66) (.seq (.region [⟨0, some 68, .move (.t 0), none⟩,
    ⟨1, some 69, .faddr 5 1, none⟩,
    ⟨2, some 70, .ldL 69 93 (.c (.int .i64)), none⟩,
    ⟨3, some 71, .call 47 [.t 68, .t 70] [.c (.bool)], none⟩,
    ⟨4, some 6, .move (.t 71), none⟩]) .ret) (.seq (.region [⟨0, some 73, .cmp .eql .i64 (.t 23) (.k (.c (.int .i64 6))), none⟩,
    ⟨1, some 72, .move (.t 73), none⟩]) (.cond (.t 72) (.seq (.region [⟨0, some 74, .move (.t 8), none⟩,
    ⟨1, some 6, .move (.t 74), none⟩]) .ret) (.seq (.seq (.region [⟨0, some 76, .cmp .eql .i64 (.t 23) (.k (.c (.int .i64 7))), none⟩,
    ⟨1, some 75, .move (.t 76), none⟩]) (.cond (.t 75) .skip (.region [⟨0, some 77, .cmp .eql .i64 (.t 23) (.k (.c (.int .i64 8))), none⟩,
    ⟨1, some 75, .move (.t 77), none⟩]))) (.cut [5, 7, 8, 23, 75, 93] fair_client_does.c44)))))))))))))) fair_client_does.c60))) }
def fair_client_does.k60 (M : Mach) (C : Call) : Kont := execC M.j C (M.ag C) fair_client_does.c60 ({ exits := [], ret := retK fair_client_does.d } : Env) (retK fair_client_does.d)
def fair_client_does.e56 (M : Mach) (C : Call) : Env := { exits := (0, (fair_client_does.k60 M C)) :: (({ exits := [], ret := retK fair_client_does.d } : Env)).exits, ret := (({ exits := [], ret := retK fair_client_does.d } : Env)).ret }
def fair_client_does.J44 (M : Mach) (C : Call) (s7 : Int) (is8 : Bool) (t23 : Int) (t75 : Bool) (o93_0 : Int) (o93_1 : Int) (o93_2 : Int) (o93_3 : Int) (o93_4 : Int) (o93_5 : Int) (G : GH) : Option Res := M.j (execC M.j C (M.ag C) fair_client_does.c44 (fair_client_does.e56 M C) (fair_client_does.k60 M C)) [.und, .und, .und, .und, .und, .ref 93 0, .und, .v (.c (.int .i64 s7)), .v (.c (.bool is8)), .und, .und, .und, .und, .und, .und, .und, .und, .und, .und, .und, .und, .und, .und, .v (.c (.int .i64 t23)), .und, .und, .und, .und, .und, .und, .und, .und, .und, .und, .und, .und, .und, .und, .und, .und, .und, .und, .und, .und, .und, .und, .und, .und, .und, .und, .und, .und, .und, .und, .und, .und, .und, .und, .und, .und, .und, .und, .und, .und, .und, .und, .und, .und, .und, .und, .und, .und, .und, .und, .und, .v (.c (.bool t75)), .und, .und, .und, .und, .und, .und, .und, .und, .und, .und, .und, .und, .und, .und, .und, .und, .und, .box [.int .i64 o93_0, .int .i64 o93_1, .int .i64 o93_2, .int .i64 o93_3, .int .i64 o93_4, .int .u8 o93_5]] G
def fair_client_does.J42 (M : Mach) (C : Call) (t90 : Bool) (G : GH) : Option Res := M.j (execC M.j C (M.ag C) fair_client_does.c42 (fair_client_does.e56 M C) (fair_client_does.k60 M C)) [.und, .und, .und, .und, .und, .und, .und, .und, .und, .und, .und, .und, .und, .und, .und, .und, .und, .und, .und, .und, .und, .und, .und, .und, .und, .und, .und, .und, .und, .und, .und, .und, .und, .und, .und, .und, .und, .und, .und, .und, .und, .und, .und, .und, .und, .und, .und, .und, .und, .und, .und, .und, .und, .und, .und, .und, .und, .und, .und, .und, .und, .und, .und, .und, .und, .und, .und, .und, .und, .und, .und, .und, .und, .und, .und, .und, .und, .und, .und, .und, .und, .und, .und, .und, .und, .und, .und, .und, .und, .und, .v (.c (.bool t90)), .und, .und, .und] G
theorem fair_client_does.J44_eq (M : Mach) (C : Call) (s7 : Int) (is8 : Bool) (t23 : Int) (t75 : Bool) (o93_0 : Int) (o93_1 : Int) (o93_2 : Int) (o93_3 : Int) (o93_4 : Int) (o93_5 : Int) (G : GH) : fair_client_does.J44 M C s7 is8 t23 t75 o93_0 o93_1 o93_2 o93_3 o93_4 o93_5 G = (bif t75 then bif is8 then bif decide (o93_4 ≥ 0) then some ([.c (.bool (decide (o93_4 < s7)))], G) else some ([.c (.bool false)], G) else some ([.c (.bool false)], G) else bif decide (t23 = 9) then fair_client_does.J42 M C (decide (t23 = 9)) G else fair_client_does.J42 M C (decide (t23 = 10)) G) := (M.hj _ _ _).trans (by kernel_rfl)
theorem fair_client_does.J42_eq (M : Mach) (C : Call) (t90 : Bool) (G : GH) : fair_client_does.J42 M C t90 G = (bif t90 then some ([.c (.bool true)], G) else some ([.c (.bool false)], G)) := (M.hj _ _ _).trans (by kernel_rfl)
def fair_client_does.f (M : Mach) (C : Call) (f0i : Nat) (f0o : Nat) (n1 : Int) (o2_0 : Int) (o2_1 : Int) (o2_2 : Int) (o2_3 : Int) (o2_4 : Int) (o2_5 : Int) (G : GH) : Option Res := guardK (!Nat.beq f0i 0) (((G.ld f0i (f0o + 8)).bind Cell.asM).bind fun qm_1 => (G.ents0 (.agg [.int .i64]) qm_1).bind fun qes_2 => ((((some ((mapGet qes_2 (.agg [.int .i64 o2_1])).getD (.c (.int .i64 0))))).bind V1.c?).bind (Cell.asI .i64)).bind fun qx_3 => bif decide (o2_0 = 1) then (C fair_client_asks.id [.c (.ptr f0i f0o), .c (.int .i64 n1), .c (.int .i64 o2_2)] G).bind fun qr_4 => (((qr_4.1[0]?).bind V1.c?).bind Cell.asB).bind fun qb_5 => some ([.c (.bool qb_5)], qr_4.2) else bif decide (o2_0 = 2) then guardK (!Nat.beq f0i 0) (((G.ld f0i ((f0o + 0) + 0)).bind (Cell.asI .i64)).bind fun qx_6 => ((G.ld f0i ((f0o + 0) + 1)).bind (Cell.asI .i64)).bind fun qx_7 => ((G.ld f0i ((f0o + 0) + 2)).bind (Cell.asI .i64)).bind fun qx_8 => ((G.ld f0i ((f0o + 0) + 3)).bind (Cell.asI .i64)).bind fun qx_9 => ((G.ld f0i ((f0o + 0) + 4)).bind (Cell.asI .i64)).bind fun qx_10 => ((G.ld f0i ((f0o + 0) + 5)).bind (Cell.asI .i64)).bind fun qx_11 => ((G.ld f0i ((f0o + 0) + 6)).bind (Cell.asI .i64)).bind fun qx_12 => ((G.ld f0i ((f0o + 0) + 7)).bind (Cell.asI .i64)).bind fun qx_13 => (C class_Product.id [.agg [.int .i64 qx_6, .int .i64 qx_7, .int .i64 qx_8, .int .i64 qx_9, .int .i64 qx_10, .int .i64 qx_11, .int .i64 qx_12, .int .i64 qx_13], .c (.int .i64 o2_4), .c (.int .i64 o2_2)] G).bind fun qr_14 => (((qr_14.1[0]?).bind V1.c?).bind (Cell.asI .i64)).bind fun qx_15 => (((qr_14.1[1]?).bind V1.c?).bind (Cell.asI .i64)).bind fun qx_16 => bif decide (qx_16 = 0) then (C fair_client_asks.id [.c (.ptr f0i f0o), .c (.int .i64 n1), .c (.int .i64 qx_15)] qr_14.2).bind fun qr_17 => (((qr_17.1[0]?).bind V1.c?).bind Cell.asB).bind fun qb_18 => some ([.c (.bool qb_18)], qr_17.2) else some ([.c (.bool false)], qr_14.2)) else bif decide (o2_0 = 4) then (C fair_client_goes.id [.c (.ptr f0i f0o), .c (.int .i64 o2_1)] G).bind fun qr_19 => (((qr_19.1[0]?).bind V1.c?).bind Cell.asB).bind fun qb_20 => bif qb_20 then (C fair_client_asks.id [.c (.ptr f0i f0o), .c (.int .i64 n1), .c (.int .i64 o2_2)] qr_19.2).bind fun qr_21 => (((qr_21.1[0]?).bind V1.c?).bind Cell.asB).bind fun qb_22 => some ([.c (.bool qb_22)], qr_21.2) else some ([.c (.bool false)], qr_19.2) else bif decide (o2_0 = 5) then (C fair_client_goes.id [.c (.ptr f0i f0o), .c (.int .i64 o2_1)] G).bind fun qr_23 => (((qr_23.1[0]?).bind V1.c?).bind Cell.asB).bind fun qb_24 => some ([.c (.bool qb_24)], qr_23.2) else bif decide (o2_0 = 6) then some ([.c (.bool ((mapGet qes_2 (.agg [.int .i64 o2_1])).isSome))], G) else bif decide (o2_0 = 7) then fair_client_does.J44 M C qx_3 ((mapGet qes_2 (.agg [.int .i64 o2_1])).isSome) o2_0 (decide (o2_0 = 7)) o2_0 o2_1 o2_2 o2_3 o2_4 o2_5 G else fair_client_does.J44 M C qx_3 ((mapGet qes_2 (.agg [.int .i64 o2_1])).isSome) o2_0 (decide (o2_0 = 8)) o2_0 o2_1 o2_2 o2_3 o2_4 o2_5 G)
theorem fair_client_does.eq (M : Mach) (C : Call) (f0i : Nat) (f0o : Nat) (n1 : Int) (o2_0 : Int) (o2_1 : Int) (o2_2 : Int) (o2_3 : Int) (o2_4 : Int) (o2_5 : Int) (G : GH) : runF M C fair_client_does.d [.c (.ptr f0i f0o), .c (.int .i64 n1), .agg [.int .i64 o2_0, .int .i64 o2_1, .int .i64 o2_2, .int .i64 o2_3, .int .i64 o2_4, .int .u8 o2_5]] G = fair_client_does.f M C f0i f0o n1 o2_0 o2_1 o2_2 o2_3 o2_4 o2_5 G := by kernel_rfl

/- 45 (*hodman/fair.client).asks -/
def fair_client_asks.c7 : DCode := (.cond (.t 52) (.seq (.region [⟨0, some 6, .move (.k (.c (.bool false))), none⟩]) .ret) .skip)
def fair_client_asks.c15 : DCode := (.seq (.region [⟨0, some 53, .move (.t 0), none⟩,
    ⟨1, some 54, .nilck (.t 53), none⟩,
    ⟨2, some 55, .faddr 54 8, none⟩,
    ⟨3, some 56, .ldG 55 (.c (.map)), none⟩,
    ⟨4, some 57, .move (.t 1), none⟩,
    ⟨5, some 58, .build [.int .i64 0] [(0, 1, .t 57)], none⟩,
    ⟨6, some 59, .move (.t 2), none⟩,
    ⟨7, none, .mupd (.agg [.int .i64]) (.t 56) (.t 58) (.t 59), none⟩]) (.seq (.region [⟨0, some 60, .move (.t 0), none⟩,
    ⟨1, some 61, .nilck (.t 60), none⟩,
    ⟨2, some 62, .faddr 61 9, none⟩,
    ⟨3, some 63, .ldG 62 (.c (.int .i64)), none⟩,
    ⟨4, some 64, .move (.t 2), none⟩,
    ⟨5, some 65, .bin .add .i64 (.t 63) (.t 64), none⟩,
    ⟨6, some 66, .nilck (.t 60), none⟩,
    ⟨7, some 67, .faddr 66 9, none⟩,
    ⟨8, none, .stG 67 (.t 65) 1, none⟩]) (.seq (.region [⟨0, some 6, .move (.k (.c (.bool true))), none⟩]) .ret)))
def fair_client_asks.d : DFn := { ntmps := 68, res := [.t 6], body := (.seq (.region [⟨0, some 6, .move (.k (.c (.bool false))), none⟩]) (.seq (.region [⟨0, some 10, .move (.t 2), none⟩,
    ⟨1, some 11, .call 62 [.t 10, .k (.c (.int .i64 2))] [.c (.int .i64), .c (.bool)], none⟩,
    ⟨2, some 9, .move (.t 11), none⟩,
    ⟨3, some 12, .ext 9 0, none⟩,
    ⟨4, some 13, .ext 9 1, none⟩,
    ⟨5, some 7, .move (.t 12), none⟩,
    ⟨6, some 8, .move (.t 13), none⟩]) (.seq (.seq (.region [⟨0, some 14, .move (.t 2), none⟩,
    ⟨1, some 15, .cmp .lss .i64 (.t 14) (.k (.c (.int .i64 1))), none⟩,
    ⟨2, some 16, .move (.t 15), none⟩,
    ⟨3, some 17, .move (.t 2), some (16, false)⟩,
    ⟨4, some 18, .move (.t 0), some (16, false)⟩,
    ⟨5, some 19, .nilck (.t 18), some (16, false)⟩,
    ⟨6, some 20, .faddr 19 0, some (16, false)⟩,
    ⟨7, some 21, .faddr 20 1, some (16, false)⟩,
    ⟨8, some 22, .ldG 21 (.c (.int .i64)), some (16, false)⟩,
    ⟨9, some 23, .cmp .gtr .i64 (.t 17) (.t 22), some (16, false)⟩,
    ⟨10, some 24, .pick (.t 16) (.k (.c (.bool true))) (.t 23), none⟩,
    ⟨11, some 25, .move (.t 24), none⟩,
    ⟨12, some 26, .move (.t 8), some (25, false)⟩,
    ⟨13, some 27, .not (.t 26), some (25, false)⟩,
    ⟨14, some 28, .pick (.t 25) (.k (.c (.bool true))) (.t 27), none⟩,
    ⟨15, some 29, .move (.t 28), none⟩,
    ⟨16, some 30, .move (.t 7), some (29, false)⟩,
    ⟨17, some 31, .move (.t 0), some (29, false)⟩,
    ⟨18, some 32, .nilck (.t 31), some (29, false)⟩,
    ⟨19, some 33, .faddr 32 0, some (29, false)⟩,
    ⟨20, some 34, .faddr 33 0, some (29, false)⟩,
    ⟨21, some 35, .ldG 34 (.c (.int .i64)), some (29, false)⟩,
    ⟨22, some 36, .cmp .lss .i64 (.t 30) (.t 35), some (29, false)⟩,
    ⟨23, some 37, .pick (.t 29) (.k (.c (.bool true))) (.t 36), none⟩,
    ⟨24, some 38, .move (.t 37), none⟩,
    ⟨25, some 39, .move (.t 2), some (38, false)⟩,
    ⟨26, some 40, .move (.t 0), some (38, false)⟩,
    ⟨27, some 41, .nilck (.t 40), some (38, false)⟩,
    ⟨28, some 42, .faddr 41 0, some (38, false)⟩,
    ⟨29, some 43, .faddr 42 2, some (38, false)⟩,
    ⟨30, some 44, .ldG 43 (.c (.int .i64)), some (38, false)⟩,
    ⟨31, some 45, .bin .quo .i64 (.t 44) (.k (.c (.int .i64 2))), some (38, false)⟩,
    ⟨32, some 46, .move (.t 0), some (38, false)⟩,
    ⟨33, some 47, .nilck (.t 46), some (38, false)⟩,
    ⟨34, some 48, .faddr 47 9, some (38, false)⟩,
    ⟨35, some 49, .ldG 48 (.c (.int .i64)), some (38, false)⟩,
    ⟨36, some 50, .bin .sub .i64 (.t 45) (.t 49), some (38, false)⟩,
    ⟨37, some 51, .cmp .gtr .i64 (.t 39) (.t 50), some (38, false)⟩,
    ⟨38, some 52, .pick (.t 38) (.k (.c (.bool true))) (.t 51), none⟩]) (.cut [0, 1, 2, 52] fair_client_asks.c7)) fair_client_asks.c15))) }
def fair_client_asks.k15 (M : Mach) (C : Call) : Kont := execC M.j C (M.ag C) fair_client_asks.c15 ({ exits := [], ret := retK fair_client_asks.d } : Env) (retK fair_client_asks.d)
def fair_client_asks.J7 (M : Mach) (C : Call) (f0i : Nat) (f0o : Nat) (n1 : Int) (s2 : Int) (t52 : Bool) (G : GH) : Option Res := M.j (execC M.j C (M.ag C) fair_client_asks.c7 ({ exits := [], ret := retK fair_client_asks.d } : Env) (fair_client_asks.k15 M C)) [.v (.c (.ptr f0i f0o)), .v (.c (.int .i64 n1)), .v (.c (.int .i64 s2)), .und, .und, .und, .und, .und, .und, .und, .und, .und, .und, .und, .und, .und, .und, .und, .und, .und, .und, .und, .und, .und, .und, .und, .und, .und, .und, .und, .und, .und, .und, .und, .und, .und, .und, .und, .und, .und, .und, .und, .und, .und, .und, .und, .und, .und, .und, .und, .und, .und, .v (.c (.bool t52)), .und, .und, .und, .und, .und, .und, .und, .und, .und, .und, .und, .und, .und, .und, .und] G
theorem fair_client_asks.J7_eq (M : Mach) (C : Call) (f0i : Nat) (f0o : Nat) (n1 : Int) (s2 : Int) (t52 : Bool) (G : GH) : fair_client_asks.J7 M C f0i f0o n1 s2 t52 G = (bif t52 then some ([.c (.bool false)], G) else guardK (!Nat.beq f0i 0) (((G.ld f0i (f0o + 8)).bind Cell.asM).bind fun qm_8 => (G.ents (.agg [.int .i64]) qm_8).bind fun qes_9 => let qG_10 := G.set qm_8 (some (.map (.agg [.int .i64]) (mapPut qes_9 (.agg [.int .i64 n1]) (.c (.int .i64 s2))))); guardK (!Nat.beq f0i 0) (((qG_10.ld f0i (f0o + 9)).bind (Cell.asI .i64)).bind fun qx_11 => guardK (!Nat.beq f0i 0) ((qG_10.sts f0i (f0o + 9) [.int .i64 (IntKind.i64.wrap (qx_11 + s2))]).bind fun qG_12 => some ([.c (.bool true)], qG_12))))) := (M.hj _ _ _).trans (by kernel_rfl)
def fair_client_asks.f (M : Mach) (C : Call) (f0i : Nat) (f0o : Nat) (n1 : Int) (s2 : Int) (G : GH) : Option Res := (C calc_Mul.id [.c (.int .i64 s2), .c (.int .i64 2)] G).bind fun qr_1 => (((qr_1.1[0]?).bind V1.c?).bind (Cell.asI .i64)).bind fun qx_2 => (((qr_1.1[1]?).bind V1.c?).bind Cell.asB).bind fun qb_3 => bif decide (s2 < 1) then fair_client_asks.J7 M C f0i f0o n1 s2 true qr_1.2 else guardK (!Nat.beq f0i 0) (((qr_1.2.ld f0i ((f0o + 0) + 1)).bind (Cell.asI .i64)).bind fun qx_4 => bif decide (s2 > qx_4) then fair_client_asks.J7 M C f0i f0o n1 s2 true qr_1.2 else bif (!qb_3) then fair_client_asks.J7 M C f0i f0o n1 s2 true qr_1.2 else guardK (!Nat.beq f0i 0) (((qr_1.2.ld f0i ((f0o + 0) + 0)).bind (Cell.asI .i64)).bind fun qx_5 => bif decide (qx_2 < qx_5) then fair_client_asks.J7 M C f0i f0o n1 s2 true qr_1.2 else guardK (!Nat.beq f0i 0) (((qr_1.2.ld f0i ((f0o + 0) + 2)).bind (Cell.asI .i64)).bind fun qx_6 => guardK (!Nat.beq f0i 0) (((qr_1.2.ld f0i (f0o + 9)).bind (Cell.asI .i64)).bind fun qx_7 => fair_client_asks.J7 M C f0i f0o n1 s2 (decide (s2 > IntKind.i64.wrap ((IntKind.i64.wrap (Int.tdiv qx_6 2)) - qx_7))) qr_1.2))))
theorem fair_client_asks.eq (M : Mach) (C : Call) (f0i : Nat) (f0o : Nat) (n1 : Int) (s2 : Int) (G : GH) : runF M C fair_client_asks.d [.c (.ptr f0i f0o), .c (.int .i64 n1), .c (.int .i64 s2)] G = fair_client_asks.f M C f0i f0o n1 s2 G := by kernel_rfl

/- 12 hodman/hodmanlaw23.begun -/
def hodmanlaw23_begun.d : DFn := { ntmps := 30, res := [.t 0], body := (.seq (.region [⟨0, some 0, .move (.k (.c (.bool false))), none⟩]) (.seq (.region [⟨0, some 4, .build [.int .i64 0, .int .i64 0, .int .i64 0, .int .i64 0, .int .i64 0, .int .i64 0] [(0, 1, .k (.c (.int .i64 1))), (1, 1, .k (.c (.int .i64 4))), (2, 1, .k (.c (.int .i64 8))), (3, 1, .k (.c (.int .i64 1)))], none⟩,
    ⟨1, some 5, .call 27 [.t 4] [.agg [.int .i64, .int .i64, .int .i64, .int .i64, .int .i64, .int .i64, .int .i64, .int .i64], .c (.int .i64)], none⟩,
    ⟨2, some 3, .move (.t 5), none⟩,
    ⟨3, some 6, .ext 3 0, none⟩,
    ⟨4, some 7, .ext 3 1, none⟩,
    ⟨5, some 1, .boxz 29 [] [.int .i64 0, .int .i64 0, .int .i64 0, .int .i64 0, .int .i64 0, .int .i64 0, .int .i64 0, .int .i64 0], none⟩,
    ⟨6, none, .stL 1 29 (.t 6) 8, none⟩,
    ⟨7, some 2, .move (.t 7), none⟩]) (.seq (.region [⟨0, some 8, .ldL 1 29 (.agg [.int .i64, .int .i64, .int .i64, .int .i64, .int .i64, .int .i64, .int .i64, .int .i64]), none⟩,
    ⟨1, some 9, .build [.int .i64 0, .int .i64 0, .int .i64 0, .int .i64 0, .int .i64 0, .int .u8 0] [(0, 1, .k (.c (.int .i64 1))), (2, 1, .k (.c (.int .i64 4)))], none⟩,
    ⟨2, some 10, .build [.int .i64 0, .int .i64 0, .int .i64 0, .int .i64 0, .int .i64 0, .int .u8 0] [(0, 1, .k (.c (.int .i64 5))), (1, 1, .k (.c (.int .i64 0)))], none⟩,
    ⟨3, some 11, .build [.int .i64 0, .int .i64 0, .int .i64 0, .int .i64 0, .int .i64 0, .int .u8 0] [(0, 1, .k (.c (.int .i64 1))), (2, 1, .k (.c (.int .i64 4)))], none⟩,
    ⟨4, some 12, .bslice 3 6 [.int .i64 0, .int .i64 0, .int .i64 0, .int .i64 0, .int .i64 0, .int .u8 0, .int .i64 0, .int .i64 0, .int .i64 0, .int .i64 0, .int .i64 0, .int .u8 0, .int .i64 0, .int .i64 0, .int .i64 0, .int .i64 0, .int .i64 0, .int .u8 0] [(0, 6, .t 9), (6, 6, .t 10), (12, 6, .t 11)], none⟩,
    ⟨5, some 13, .call 17 [.t 8, .t 12] [.c (.bool)], none⟩,
    ⟨6, some 14, .move (.t 13), none⟩,
    ⟨7, some 15, .ldL 1 29 (.agg [.int .i64, .int .i64, .int .i64, .int .i64, .int .i64, .int .i64, .int .i64, .int .i64]), some (14, true)⟩,
    ⟨8, some 16, .build [.int .i64 0, .int .i64 0, .int .i64 0, .int .i64 0, .int .i64 0, .int .u8 0] [(0, 1, .k (.c (.int .i64 1))), (2, 1, .k (.c (.int .i64 3)))], some (14, true)⟩,
    ⟨9, some 17, .build [.int .i64 0, .int .i64 0, .int .i64 0, .int .i64 0, .int .i64 0, .int .u8 0] [(0, 1, .k (.c (.int .i64 1))), (2, 1, .k (.c (.int .i64 2)))], some (14, true)⟩,
    ⟨10, some 18, .bslice 2 6 [.int .i64 0, .int .i64 0, .int .i64 0, .int .i64 0, .int .i64 0, .int .u8 0, .int .i64 0, .int .i64 0, .int .i64 0, .int .i64 0, .int .i64 0, .int .u8 0] [(0, 6, .t 16), (6, 6, .t 17)], some (14, true)⟩,
    ⟨11, some 19, .call 17 [.t 15, .t 18] [.c (.bool)], some (14, true)⟩,
    ⟨12, some 20, .not (.t 19), some (14, true)⟩,
    ⟨13, some 21, .pick (.t 14) (.t 20) (.k (.c (.bool false))), none⟩,
    ⟨14, some 22, .move (.t 21), none⟩,
    ⟨15, some 23, .ldL 1 29 (.agg [.int .i64, .int .i64, .int .i64, .int .i64, .int .i64, .int .i64, .int .i64, .int .i64]), some (22, true)⟩,
    ⟨16, some 24, .build [.int .i64 0, .int .i64 0, .int .i64 0, .int .i64 0, .int .i64 0, .int .u8 0] [(0, 1, .k (.c (.int .i64 5))), (1, 1, .k (.c (.int .i64 0)))], some (22, true)⟩,
    ⟨17, some 25, .bslice 1 6 [.int .i64 0, .int .i64 0, .int .i64 0, .int .i64 0, .int .i64 0, .int .u8 0] [(0, 6, .t 24)], some (22, true)⟩,
    ⟨18, some 26, .call 17 [.t 23, .t 25] [.c (.bool)], some (22, true)⟩,
    ⟨19, some 27, .not (.t 26), some (22, true)⟩,
    ⟨20, some 28, .pick (.t 22) (.t 27) (.k (.c (.bool false))), none⟩,
    ⟨21, some 0, .move (.t 28), none⟩]) .ret))) }
def hodmanlaw23_begun.f (M : Mach) (C : Call)  (G : GH) : Option Res := (C hodmanref1_Of.id [.agg [.int .i64 1, .int .i64 4, .int .i64 8, .int .i64 1, .int .i64 0, .int .i64 0]] G).bind fun qr_1 => ((qr_1.1[0]?).bind V1.a?).bind fun qcs_2 => if qcs_2.length = 8 then (((qcs_2[0]?).bind (Cell.asI .i64)).bind fun qx_3 => ((qcs_2[1]?).bind (Cell.asI .i64)).bind fun qx_4 => ((qcs_2[2]?).bind (Cell.asI .i64)).bind fun qx_5 => ((qcs_2[3]?).bind (Cell.asI .i64)).bind fun qx_6 => ((qcs_2[4]?).bind (Cell.asI .i64)).bind fun qx_7 => ((qcs_2[5]?).bind (Cell.asI .i64)).bind fun qx_8 => ((qcs_2[6]?).bind (Cell.asI .i64)).bind fun qx_9 => ((qcs_2[7]?).bind (Cell.asI .i64)).bind fun qx_10 => (((qr_1.1[1]?).bind V1.c?).bind (Cell.asI .i64)).bind fun qx_11 => let qG_12 := qr_1.2.alloc (.row [.int .i64 1, .int .i64 0, .int .i64 4, .int .i64 0, .int .i64 0, .int .u8 0, .int .i64 5, .int .i64 0, .int .i64 0, .int .i64 0, .int .i64 0, .int .u8 0, .int .i64 1, .int .i64 0, .int .i64 4, .int .i64 0, .int .i64 0, .int .u8 0] false); (C fair_May.id [.agg [.int .i64 qx_3, .int .i64 qx_4, .int .i64 qx_5, .int .i64 qx_6, .int .i64 qx_7, .int .i64 qx_8, .int .i64 qx_9, .int .i64 qx_10], .c (.sl 6 qr_1.2.next 0 3)] qG_12).bind fun qr_13 => (((qr_13.1[0]?).bind V1.c?).bind Cell.asB).bind fun qb_14 => bif qb_14 then let qG_15 := qr_13.2.alloc (.row [.int .i64 1, .int .i64 0, .int .i64 3, .int .i64 0, .int .i64 0, .int .u8 0, .int .i64 1, .int .i64 0, .int .i64 2, .int .i64 0, .int .i64 0, .int .u8 0] false); (C fair_May.id [.agg [.int .i64 qx_3, .int .i64 qx_4, .int .i64 qx_5, .int .i64 qx_6, .int .i64 qx_7, .int .i64 qx_8, .int .i64 qx_9, .int .i64 qx_10], .c (.sl 6 qr_13.2.next 0 2)] qG_15).bind fun qr_16 => (((qr_16.1[0]?).bind V1.c?).bind Cell.asB).bind fun qb_17 => bif (!qb_17) then let qG_18 := qr_16.2.alloc (.row [.int .i64 5, .int .i64 0, .int .i64 0, .int .i64 0, .int .i64 0, .int .u8 0] false); (C fair_May.id [.agg [.int .i64 qx_3, .int .i64 qx_4, .int .i64 qx_5, .int .i64 qx_6, .int .i64 qx_7, .int .i64 qx_8, .int .i64 qx_9, .int .i64 qx_10], .c (.sl 6 qr_16.2.next 0 1)] qG_18).bind fun qr_19 => (((qr_19.1[0]?).bind V1.c?).bind Cell.asB).bind fun qb_20 => some ([.c (.bool (!qb_20))], qr_19.2) else some ([.c (.bool false)], qr_16.2) else some ([.c (.bool false)], qr_13.2)) else none
theorem hodmanlaw23_begun.eq (M : Mach) (C : Call)  (G : GH) : runF M C hodmanlaw23_begun.d [] G = hodmanlaw23_begun.f M C  G := by kernel_rfl

/- 62 hodman/calc.Mul -/
def calc_Mul.c10 : DCode := (.cond (.t 14) (.seq (.region [⟨0, some 4, .move (.k (.c (.int .i64 0))), none⟩,
    ⟨1, some 5, .move (.k (.c (.bool false))), none⟩]) .ret) .skip)
def calc_Mul.c12 : DCode := (.cond (.t 7) (.seq (.region [⟨0, some 4, .move (.k (.c (.int .i64 0))), none⟩,
    ⟨1, some 5, .move (.k (.c (.bool true))), none⟩]) .ret) (.seq (.region [⟨0, some 15, .move (.t 0), none⟩,
    ⟨1, some 16, .cmp .eql .i64 (.t 15) (.k (.c (.int .i64 (-1)))), none⟩,
    ⟨2, some 17, .move (.t 16), none⟩,
    ⟨3, some 18, .move (.t 1), some (17, true)⟩,
    ⟨4, some 19, .cmp .eql .i64 (.t 18) (.k (.c (.int .i64 (-9223372036854775808)))), some (17, true)⟩,
    ⟨5, some 20, .pick (.t 17) (.t 19) (.k (.c (.bool false))), none⟩,
    ⟨6, some 21, .move (.t 20), none⟩,
    ⟨7, some 22, .move (.t 1), some (21, false)⟩,
    ⟨8, some 23, .cmp .eql .i64 (.t 22) (.k (.c (.int .i64 (-1)))), some (21, false)⟩,
    ⟨9, some 24, .move (.t 23), some (21, false)⟩,
    ⟨10, some 25, .move (.t 0), some (24, true)⟩,
    ⟨11, some 26, .cmp .eql .i64 (.t 25) (.k (.c (.int .i64 (-9223372036854775808)))), some (24, true)⟩,
    ⟨12, some 27, .pick (.t 24) (.t 26) (.k (.c (.bool false))), some (21, false)⟩,
    ⟨13, some 28, .pick (.t 21) (.k (.c (.bool true))) (.t 27), none⟩,
    ⟨14, some 14, .move (.t 28), none⟩]) (.cut [0, 1, 14] calc_Mul.c10)))
def calc_Mul.c27 : DCode := (.seq (.region [⟨0, some 29, .move (.t 0), none⟩,
    ⟨1, some 30, .conv .u64 (.t 29), none⟩,
    ⟨2, some 31, .move (.t 1), none⟩,
    ⟨3, some 32, .conv .u64 (.t 31), none⟩,
    ⟨4, some 33, .bin .mul .u64 (.t 30) (.t 32), none⟩,
    ⟨5, some 34, .conv .i64 (.t 33), none⟩,
    ⟨6, some 6, .move (.t 34), none⟩]) (.seq (.seq (.region [⟨0, some 35, .move (.t 6), none⟩,
    ⟨1, some 36, .move (.t 1), none⟩,
    ⟨2, some 37, .bin .quo .i64 (.t 35) (.t 36), none⟩,
    ⟨3, some 38, .move (.t 0), none⟩,
    ⟨4, some 39, .cmp .neq .i64 (.t 37) (.t 38), none⟩]) (.cond (.t 39) (.seq (.region [⟨0, some 4, .move (.k (.c (.int .i64 0))), none⟩,
    ⟨1, some 5, .move (.k (.c (.bool false))), none⟩]) .ret) .skip)) (.seq (.region [⟨0, some 40, .move (.t 6), none⟩,
    ⟨1, some 4, .move (.t 40), none⟩,
    ⟨2, some 5, .move (.k (.c (.bool true))), none⟩]) .ret)))
def calc_Mul.d : DFn := { ntmps := 41, res := [.t 4, .t 5], body := (.seq (.region [⟨0, some 4, .move (.k (.c (.int .i64 0))), none⟩,
    ⟨1, some 5, .move (.k (.c (.bool false))), none⟩]) (.seq (.block 0 (.seq (.region [⟨0, some 8, .move (.t 0), none⟩,
    ⟨1, some 9, .cmp .eql .i64 (.t 8) (.k (.c (.int .i64 0))), none⟩,
    ⟨2, some 10, .move (.t 9), none⟩,
    ⟨3, some 11, .move (.t 1), some (10, false)⟩,
    ⟨4, some 12, .cmp .eql .i64 (.t 11) (.k (.c (.int .i64 0))), some (10, false)⟩,
    ⟨5, some 13, .pick (.t 10) (.k (.c (.bool true))) (.t 12), none⟩,
    ⟨6, some 7, .move (.t 13), none⟩]) (.cut [0, 1, 7] calc_Mul.c12))) calc_Mul.c27)) }
def calc_Mul.k27 (M : Mach) (C : Call) : Kont := execC M.j C (M.ag C) calc_Mul.c27 ({ exits := [], ret := retK calc_Mul.d } : Env) (retK calc_Mul.d)
def calc_Mul.e14 (M : Mach) (C : Call) : Env := { exits := (0, (calc_Mul.k27 M C)) :: (({ exits := [], ret := retK calc_Mul.d } : Env)).exits, ret := (({ exits := [], ret := retK calc_Mul.d } : Env)).ret }
def calc_Mul.J12 (M : Mach) (C : Call) (a0 : Int) (b1 : Int) (t7 : Bool) (G : GH) : Option Res := M.j (execC M.j C (M.ag C) calc_Mul.c12 (calc_Mul.e14 M C) (calc_Mul.k27 M C)) [.v (.c (.int .i64 a0)), .v (.c (.int .i64 b1)), .und, .und, .und, .und, .und, .v (.c (.bool t7)), .und, .und, .und, .und, .und, .und, .und, .und, .und, .und, .und, .und, .und, .und, .und, .und, .und, .und, .und, .und, .und, .und, .und, .und, .und, .und, .und, .und, .und, .und, .und, .und, .und] G
def calc_Mul.J10 (M : Mach) (C : Call) (a0 : Int) (b1 : Int) (t14 : Bool) (G : GH) : Option Res := M.j (execC M.j C (M.ag C) calc_Mul.c10 (calc_Mul.e14 M C) (calc_Mul.k27 M C)) [.v (.c (.int .i64 a0)), .v (.c (.int .i64 b1)), .und, .und, .und, .und, .und, .und, .und, .und, .und, .und, .und, .und, .v (.c (.bool t14)), .und, .und, .und, .und, .und, .und, .und, .und, .und, .und, .und, .und, .und, .und, .und, .und, .und, .und, .und, .und, .und, .und, .und, .und, .und, .und] G
theorem calc_Mul.J12_eq (M : Mach) (C : Call) (a0 : Int) (b1 : Int) (t7 : Bool) (G : GH) : calc_Mul.J12 M C a0 b1 t7 G = (bif t7 then some ([.c (.int .i64 0), .c (.bool true)], G) else bif decide (a0 = (-1)) then bif decide (b1 = (-9223372036854775808)) then calc_Mul.J10 M C a0 b1 true G else bif decide (b1 = (-1)) then calc_Mul.J10 M C a0 b1 (decide (a0 = (-9223372036854775808))) G else calc_Mul.J10 M C a0 b1 false G else bif decide (b1 = (-1)) then calc_Mul.J10 M C a0 b1 (decide (a0 = (-9223372036854775808))) G else calc_Mul.J10 M C a0 b1 false G) := (M.hj _ _ _).trans (by kernel_rfl)
theorem calc_Mul.J10_eq (M : Mach) (C : Call) (a0 : Int) (b1 : Int) (t14 : Bool) (G : GH) : calc_Mul.J10 M C a0 b1 t14 G = (bif t14 then some ([.c (.int .i64 0), .c (.bool false)], G) else (binD .quo .i64 (IntKind.i64.wrap (IntKind.u64.wrap ((IntKind.u64.wrap a0) * (IntKind.u64.wrap b1)))) b1).bind fun qx_1 => bif (!decide (qx_1 = a0)) then some ([.c (.int .i64 0), .c (.bool false)], G) else some ([.c (.int .i64 (IntKind.i64.wrap (IntKind.u64.wrap ((IntKind.u64.wrap a0) * (IntKind.u64.wrap b1))))), .c (.bool true)], G)) := (M.hj _ _ _).trans (by kernel_rfl)
def calc_Mul.f (M : Mach) (C : Call) (a0 : Int) (b1 : Int) (G : GH) : Option Res := bif decide (a0 = 0) then calc_Mul.J12 M C a0 b1 true G else calc_Mul.J12 M C a0 b1 (decide (b1 = 0)) G
theorem calc_Mul.eq (M : Mach) (C : Call) (a0 : Int) (b1 : Int) (G : GH) : runF M C calc_Mul.d [.c (.int .i64 a0), .c (.int .i64 b1)] G = calc_Mul.f M C a0 b1 G := by kernel_rfl

/- 46 hodman/class.Product -/
def class_Product.c6 : DCode := (.cond (.t 15) (.seq (.region [⟨0, some 6, .move (.k (.c (.int .i64 0))), none⟩,
    ⟨1, some 7, .move (.k (.c (.int .i64 2))), none⟩]) .ret) .skip)
def class_Product.c14 : DCode := (.cond (.t 29) (.seq (.region [⟨0, some 6, .move (.k (.c (.int .i64 0))), none⟩,
    ⟨1, some 7, .move (.k (.c (.int .i64 4))), none⟩]) .ret) .skip)
def class_Product.c18 : DCode := (.seq (.region [⟨0, some 30, .move (.t 8), none⟩,
    ⟨1, some 6, .move (.t 30), none⟩,
    ⟨2, some 7, .move (.k (.c (.int .i64 0))), none⟩]) .ret)
def class_Product.c20 : DCode := (.seq (.region [⟨0, some 17, .move (.t 1), none⟩,
    ⟨1, some 18, .move (.t 2), none⟩,
    ⟨2, some 19, .call 62 [.t 17, .t 18] [.c (.int .i64), .c (.bool)], none⟩,
    ⟨3, some 16, .move (.t 19), none⟩,
    ⟨4, some 20, .ext 16 0, none⟩,
    ⟨5, some 21, .ext 16 1, none⟩,
    ⟨6, some 8, .move (.t 20), none⟩,
    ⟨7, some 9, .move (.t 21), none⟩]) (.seq (.seq (.region [⟨0, some 22, .move (.t 9), none⟩,
    ⟨1, some 23, .not (.t 22), none⟩,
    ⟨2, some 24, .move (.t 23), none⟩,
    ⟨3, some 25, .move (.t 8), some (24, false)⟩,
    ⟨4, some 26, .faddr 3 1, some (24, false)⟩,
    ⟨5, some 27, .ldL 26 31 (.c (.int .i64)), some (24, false)⟩,
    ⟨6, some 28, .cmp .gtr .i64 (.t 25) (.t 27), some (24, false)⟩,
    ⟨7, some 29, .pick (.t 24) (.k (.c (.bool true))) (.t 28), none⟩]) (.cut [8, 29] class_Product.c14)) class_Product.c18))
def class_Product.d : DFn := { ntmps := 32, res := [.t 6, .t 7], body := (.seq (.region [⟨0, some 3, .boxv 31 [26] (.t 0) 8, none⟩,
    ⟨1, some 6, .move (.k (.c (.int .i64 0))), none⟩,
    ⟨2, some 7, .move (.k (.c (.int .i64 0))), none⟩]) (.seq (.seq (.region [⟨0, some 10, .move (.t 1), none⟩,
    ⟨1, some 11, .cmp .lss .i64 (.t 10) (.k (.c (.int .i64 0))), none⟩,
    ⟨2, some 12, .move (.t 11), none⟩,
    ⟨3, some 13, .move (.t 2), some (12, false)⟩,
    ⟨4, some 14, .cmp .lss .i64 (.t 13) (.k (.c (.int .i64 0))), some (12, false)⟩,
    ⟨5, some 15, .pick (.t 12) (.k (.c (.bool true))) (.t 14), none⟩]) (.cut [1, 2, 3, 15, 31] class_Product.c6)) class_Product.c20)) }
def class_Product.k20 (M : Mach) (C : Call) : Kont := execC M.j C (M.ag C) class_Product.c20 ({ exits := [], ret := retK class_Product.d } : Env) (retK class_Product.d)
def class_Product.J6 (M : Mach) (C : Call) (n1 : Int) (s2 : Int) (t15 : Bool) (c31_0 : Int) (c31_1 : Int) (c31_2 : Int) (c31_3 : Int) (c31_4 : Int) (c31_5 : Int) (c31_6 : Int) (c31_7 : Int) (G : GH) : Option Res := M.j (execC M.j C (M.ag C) class_Product.c6 ({ exits := [], ret := retK class_Product.d } : Env) (class_Product.k20 M C)) [.und, .v (.c (.int .i64 n1)), .v (.c (.int .i64 s2)), .ref 31 0, .und, .und, .und, .und, .und, .und, .und, .und, .und, .und, .und, .v (.c (.bool t15)), .und, .und, .und, .und, .und, .und, .und, .und, .und, .und, .und, .und, .und, .und, .und, .box [.int .i64 c31_0, .int .i64 c31_1, .int .i64 c31_2, .int .i64 c31_3, .int .i64 c31_4, .int .i64 c31_5, .int .i64 c31_6, .int .i64 c31_7]] G
def class_Product.k18 (M : Mach) (C : Call) : Kont := execC M.j C (M.ag C) class_Product.c18 ({ exits := [], ret := retK class_Product.d } : Env) (retK class_Product.d)
def class_Product.J14 (M : Mach) (C : Call) (p8 : Int) (t29 : Bool) (G : GH) : Option Res := M.j (execC M.j C (M.ag C) class_Product.c14 ({ exits := [], ret := retK class_Product.d } : Env) (class_Product.k18 M C)) [.und, .und, .und, .und, .und, .und, .und, .und, .v (.c (.int .i64 p8)), .und, .und, .und, .und, .und, .und, .und, .und, .und, .und, .und, .und, .und, .und, .und, .und, .und, .und, .und, .und, .v (.c (.bool t29)), .und, .und] G
theorem class_Product.J6_eq (M : Mach) (C : Call) (n1 : Int) (s2 : Int) (t15 : Bool) (c31_0 : Int) (c31_1 : Int) (c31_2 : Int) (c31_3 : Int) (c31_4 : Int) (c31_5 : Int) (c31_6 : Int) (c31_7 : Int) (G : GH) : class_Product.J6 M C n1 s2 t15 c31_0 c31_1 c31_2 c31_3 c31_4 c31_5 c31_6 c31_7 G = (bif t15 then some ([.c (.int .i64 0), .c (.int .i64 2)], G) else (C calc_Mul.id [.c (.int .i64 n1), .c (.int .i64 s2)] G).bind fun qr_1 => (((qr_1.1[0]?).bind V1.c?).bind (Cell.asI .i64)).bind fun qx_2 => (((qr_1.1[1]?).bind V1.c?).bind Cell.asB).bind fun qb_3 => bif (!qb_3) then class_Product.J14 M C qx_2 true qr_1.2 else class_Product.J14 M C qx_2 (decide (qx_2 > c31_1)) qr_1.2) := (M.hj _ _ _).trans (by kernel_rfl)
theorem class_Product.J14_eq (M : Mach) (C : Call) (p8 : Int) (t29 : Bool) (G : GH) : class_Product.J14 M C p8 t29 G = (bif t29 then some ([.c (.int .i64 0), .c (.int .i64 4)], G) else some ([.c (.int .i64 p8), .c (.int .i64 0)], G)) := (M.hj _ _ _).trans (by kernel_rfl)
def class_Product.f (M : Mach) (C : Call) (c0_0 : Int) (c0_1 : Int) (c0_2 : Int) (c0_3 : Int) (c0_4 : Int) (c0_5 : Int) (c0_6 : Int) (c0_7 : Int) (n1 : Int) (s2 : Int) (G : GH) : Option Res := bif decide (n1 < 0) then class_Product.J6 M C n1 s2 true c0_0 c0_1 c0_2 c0_3 c0_4 c0_5 c0_6 c0_7 G else class_Product.J6 M C n1 s2 (decide (s2 < 0)) c0_0 c0_1 c0_2 c0_3 c0_4 c0_5 c0_6 c0_7 G
theorem class_Product.eq (M : Mach) (C : Call) (c0_0 : Int) (c0_1 : Int) (c0_2 : Int) (c0_3 : Int) (c0_4 : Int) (c0_5 : Int) (c0_6 : Int) (c0_7 : Int) (n1 : Int) (s2 : Int) (G : GH) : runF M C class_Product.d [.agg [.int .i64 c0_0, .int .i64 c0_1, .int .i64 c0_2, .int .i64 c0_3, .int .i64 c0_4, .int .i64 c0_5, .int .i64 c0_6, .int .i64 c0_7], .c (.int .i64 n1), .c (.int .i64 s2)] G = class_Product.f M C c0_0 c0_1 c0_2 c0_3 c0_4 c0_5 c0_6 c0_7 n1 s2 G := by kernel_rfl

/- 47 (*hodman/fair.client).goes -/
def fair_client_goes.d : DFn := { ntmps := 33, res := [.t 4], body := (.seq (.region [⟨0, some 4, .move (.k (.c (.bool false))), none⟩]) (.seq (.region [⟨0, some 8, .move (.t 0), none⟩,
    ⟨1, some 9, .nilck (.t 8), none⟩,
    ⟨2, some 10, .faddr 9 8, none⟩,
    ⟨3, some 11, .ldG 10 (.c (.map)), none⟩,
    ⟨4, some 12, .move (.t 1), none⟩,
    ⟨5, some 13, .build [.int .i64 0] [(0, 1, .t 12)], none⟩,
    ⟨6, some 14, .lkup (.agg [.int .i64]) (.t 11) (.t 13) (.c (.int .i64 0)) (.c (.int .i64)) true, none⟩,
    ⟨7, some 7, .move (.t 14), none⟩,
    ⟨8, some 15, .ext 7 0, none⟩,
    ⟨9, some 16, .ext 7 1, none⟩,
    ⟨10, some 5, .move (.t 15), none⟩,
    ⟨11, some 6, .move (.t 16), none⟩]) (.seq (.seq (.region [⟨0, some 17, .move (.t 6), none⟩,
    ⟨1, some 18, .not (.t 17), none⟩]) (.cond (.t 18) (.seq (.region [⟨0, some 4, .move (.k (.c (.bool false))), none⟩]) .ret) .skip)) (.seq (.region [⟨0, some 19, .move (.t 0), none⟩,
    ⟨1, some 20, .nilck (.t 19), none⟩,
    ⟨2, some 21, .faddr 20 8, none⟩,
    ⟨3, some 22, .ldG 21 (.c (.map)), none⟩,
    ⟨4, some 23, .move (.t 1), none⟩,
    ⟨5, some 24, .build [.int .i64 0] [(0, 1, .t 23)], none⟩,
    ⟨6, none, .del (.agg [.int .i64]) (.t 22) (.t 24), none⟩]) (.seq (.region [⟨0, some 25, .move (.t 0), none⟩,
    ⟨1, some 26, .nilck (.t 25), none⟩,
    ⟨2, some 27, .faddr 26 9, none⟩,
    ⟨3, some 28, .ldG 27 (.c (.int .i64)), none⟩,
    ⟨4, some 29, .move (.t 5), none⟩,
    ⟨5, some 30, .bin .sub .i64 (.t 28) (.t 29), none⟩,
    ⟨6, some 31, .nilck (.t 25), none⟩,
    ⟨7, some 32, .faddr 31 9, none⟩,
    ⟨8, none, .stG 32 (.t 30) 1, none⟩]) (.seq (.region [⟨0, some 4, .move (.k (.c (.bool true))), none⟩]) .ret)))))) }
def fair_client_goes.f (M : Mach) (C : Call) (f0i : Nat) (f0o : Nat) (n1 : Int) (G : GH) : Option Res := guardK (!Nat.beq f0i 0) (((G.ld f0i (f0o + 8)).bind Cell.asM).bind fun qm_1 => (G.ents0 (.agg [.int .i64]) qm_1).bind fun qes_2 => ((((some ((mapGet qes_2 (.agg [.int .i64 n1])).getD (.c (.int .i64 0))))).bind V1.c?).bind (Cell.asI .i64)).bind fun qx_3 => bif (!(mapGet qes_2 (.agg [.int .i64 n1])).isSome) then some ([.c (.bool false)], G) else guardK (!Nat.beq f0i 0) (((G.ld f0i (f0o + 8)).bind Cell.asM).bind fun qm_4 => (G.ents (.agg [.int .i64]) qm_4).bind fun qes_5 => let qG_6 := G.set qm_4 (some (.map (.agg [.int .i64]) (mapDel qes_5 (.agg [.int .i64 n1])))); guardK (!Nat.beq f0i 0) (((qG_6.ld f0i (f0o + 9)).bind (Cell.asI .i64)).bind fun qx_7 => guardK (!Nat.beq f0i 0) ((qG_6.sts f0i (f0o + 9) [.int .i64 (IntKind.i64.wrap (qx_7 - qx_3))]).bind fun qG_8 => some ([.c (.bool true)], qG_8)))))
theorem fair_client_goes.eq (M : Mach) (C : Call) (f0i : Nat) (f0o : Nat) (n1 : Int) (G : GH) : runF M C fair_client_goes.d [.c (.ptr f0i f0o), .c (.int .i64 n1)] G = fair_client_goes.f M C f0i f0o n1 G := by kernel_rfl
end Go.Proofs.D
