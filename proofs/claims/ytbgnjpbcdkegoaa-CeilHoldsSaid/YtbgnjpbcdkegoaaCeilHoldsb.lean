/- Texts of the proof (T0); no condition. -/
import Derived.Test.YtbgnjpbcdkegoaaCeilHoldsa
import Derived.KernelRfl
set_option linter.unusedSimpArgs false
set_option linter.unusedVariables false
set_option linter.unusedVariables false
set_option maxRecDepth 100000
namespace Go.Proofs.D
open Go
/- 11 hodman/hodmanlaw20.CeilHolds -/
def hodmanlaw20_CeilHolds.c13 : DCode := (.cond (.t 30) (.seq (.region [⟨0, some 6, .move (.k (.c (.bool true))), none⟩]) .ret) .skip)
def hodmanlaw20_CeilHolds.c39 : DCode := (.cond (.t 87) .skip (.exit 2))
def hodmanlaw20_CeilHolds.c43 : DCode := (.region [⟨0, some 88, .move (.t 16), none⟩,
    ⟨1, some 89, .bin .add .i64 (.t 88) (.k (.c (.int .i64 1))), none⟩,
    ⟨2, some 16, .move (.t 89), none⟩])
def hodmanlaw20_CeilHolds.c44 : DCode := (.seq (.block 3 (.region [⟨0, some 90, .move (.t 14), none⟩,
    ⟨1, some 91, .move (.t 13), none⟩,
    ⟨2, some 92, .bin .add .i64 (.t 90) (.t 91), none⟩,
    ⟨3, some 93, .move (.t 9), none⟩,
    ⟨4, some 94, .move (.t 16), none⟩,
    ⟨5, some 95, .iaddr (.t 93) (.t 94) 3, none⟩,
    ⟨6, some 96, .faddr 95 0, none⟩,
    ⟨7, some 97, .ldG 96 (.c (.int .i64)), none⟩,
    ⟨8, some 98, .cmp .leq .i64 (.t 92) (.t 97), none⟩,
    ⟨9, some 99, .move (.t 98), none⟩,
    ⟨10, some 100, .move (.t 9), some (99, false)⟩,
    ⟨11, some 101, .move (.t 16), some (99, false)⟩,
    ⟨12, some 102, .iaddr (.t 100) (.t 101) 3, some (99, false)⟩,
    ⟨13, some 103, .faddr 102 0, some (99, false)⟩,
    ⟨14, some 104, .ldG 103 (.c (.int .i64)), some (99, false)⟩,
    ⟨15, some 105, .move (.t 9), some (99, false)⟩,
    ⟨16, some 106, .move (.t 16), some (99, false)⟩,
    ⟨17, some 107, .iaddr (.t 105) (.t 106) 3, some (99, false)⟩,
    ⟨18, some 108, .faddr 107 1, some (99, false)⟩,
    ⟨19, some 109, .ldG 108 (.c (.int .i64)), some (99, false)⟩,
    ⟨20, some 110, .bin .add .i64 (.t 104) (.t 109), some (99, false)⟩,
    ⟨21, some 111, .move (.t 14), some (99, false)⟩,
    ⟨22, some 112, .cmp .leq .i64 (.t 110) (.t 111), some (99, false)⟩,
    ⟨23, some 113, .pick (.t 99) (.k (.c (.bool true))) (.t 112), none⟩,
    ⟨24, some 15, .move (.t 113), none⟩])) (.cut [1, 2, 7, 9, 10, 11, 13, 14, 15, 16, 178] hodmanlaw20_CeilHolds.c43))
def hodmanlaw20_CeilHolds.c45 : DCode := (.seq (.seq (.region [⟨0, some 81, .move (.t 16), none⟩,
    ⟨1, some 82, .move (.t 9), none⟩,
    ⟨2, some 83, .len (.t 82), none⟩,
    ⟨3, some 84, .cmp .lss .i64 (.t 81) (.t 83), none⟩,
    ⟨4, some 85, .move (.t 84), none⟩,
    ⟨5, some 86, .move (.t 15), some (85, true)⟩,
    ⟨6, some 87, .pick (.t 85) (.t 86) (.k (.c (.bool false))), none⟩]) (.cut [1, 2, 7, 9, 10, 11, 13, 14, 15, 16, 87, 178] hodmanlaw20_CeilHolds.c39)) hodmanlaw20_CeilHolds.c44)
def hodmanlaw20_CeilHolds.c46 : DCode := (.loop [1, 2, 7, 9, 10, 11, 13, 14, 15, 16, 178] hodmanlaw20_CeilHolds.c45)
def hodmanlaw20_CeilHolds.c53 : DCode := (.seq (.region [⟨0, some 114, .move (.t 15), none⟩]) (.cond (.t 114) (.region [⟨0, some 115, .move (.t 9), none⟩,
    ⟨1, some 116, .move (.t 14), none⟩,
    ⟨2, some 117, .move (.t 13), none⟩,
    ⟨3, some 118, .build [.int .i64 0, .int .i64 0, .int .i64 0] [(0, 1, .t 116), (1, 1, .t 117)], none⟩,
    ⟨4, some 119, .bslice 1 3 [.int .i64 0, .int .i64 0, .int .i64 0] [(0, 3, .t 118)], none⟩,
    ⟨5, some 120, .app (.t 115) (.t 119) 3 24, none⟩,
    ⟨6, some 121, .move (.t 10), none⟩,
    ⟨7, some 122, .move (.t 13), none⟩,
    ⟨8, some 123, .bin .add .i64 (.t 121) (.t 122), none⟩,
    ⟨9, some 9, .move (.t 120), none⟩,
    ⟨10, some 10, .move (.t 123), none⟩]) .skip))
def hodmanlaw20_CeilHolds.c60 : DCode := (.region [⟨0, some 44, .move (.t 11), none⟩,
    ⟨1, some 45, .bin .add .i64 (.t 44) (.k (.c (.int .i64 1))), none⟩,
    ⟨2, some 11, .move (.t 45), none⟩])
def hodmanlaw20_CeilHolds.c62 : DCode := (.seq (.seq (.region [⟨0, some 40, .move (.t 11), none⟩,
    ⟨1, some 41, .move (.t 1), none⟩,
    ⟨2, some 42, .len (.t 41), none⟩,
    ⟨3, some 43, .cmp .lss .i64 (.t 40) (.t 42), none⟩]) (.cond (.t 43) .skip (.exit 0))) (.seq (.block 1 (.seq (.region [⟨0, some 46, .move (.t 1), none⟩,
    ⟨1, some 47, .move (.t 11), none⟩,
    ⟨2, some 48, .iaddr (.t 46) (.t 47) 2, none⟩,
    ⟨3, some 49, .iaddrA 48 (.k (.c (.int .i64 0))) 2 1, none⟩,
    ⟨4, some 50, .ldG 49 (.c (.int .u8)), none⟩,
    ⟨5, some 51, .conv .i64 (.t 50), none⟩,
    ⟨6, some 52, .faddr 7 3, none⟩,
    ⟨7, some 53, .ldL 52 178 (.c (.int .i64)), none⟩,
    ⟨8, some 54, .bin .add .i64 (.t 53) (.k (.c (.int .i64 1))), none⟩,
    ⟨9, some 55, .bin .rem .i64 (.t 51) (.t 54), none⟩,
    ⟨10, some 12, .move (.t 55), none⟩]) (.seq (.region [⟨0, some 56, .ldL 7 178 (.agg [.int .i64, .int .i64, .int .i64, .int .i64, .int .i64, .int .i64, .int .i64, .int .i64]), none⟩,
    ⟨1, some 57, .move (.t 12), none⟩,
    ⟨2, some 58, .call 23 [.t 56, .t 57] [.c (.int .i64)], none⟩,
    ⟨3, some 13, .move (.t 58), none⟩]) (.seq (.region [⟨0, some 59, .move (.t 1), none⟩,
    ⟨1, some 60, .move (.t 11), none⟩,
    ⟨2, some 61, .iaddr (.t 59) (.t 60) 2, none⟩,
    ⟨3, some 62, .iaddrA 61 (.k (.c (.int .i64 1))) 2 1, none⟩,
    ⟨4, some 63, .ldG 62 (.c (.int .u8)), none⟩,
    ⟨5, some 64, .conv .i64 (.t 63), none⟩,
    ⟨6, some 65, .move (.t 13), none⟩,
    ⟨7, some 66, .bin .mul .i64 (.t 64) (.t 65), none⟩,
    ⟨8, some 67, .ldL 7 178 (.agg [.int .i64, .int .i64, .int .i64, .int .i64, .int .i64, .int .i64, .int .i64, .int .i64]), none⟩,
    ⟨9, some 68, .move (.t 12), none⟩,
    ⟨12, some 71, .move (.t 13), none⟩,
    ⟨14, some 73, .move (.t 13), none⟩,
    ⟨10, some 69, .call 22 [.t 67, .t 68] [.c (.int .i64)], none⟩,
    ⟨9999, none, .reG 63 62 (.c (.int .u8)), none⟩,
    ⟨11, some 70, .bin .rem .i64 (.t 66) (.t 69), none⟩,
    ⟨13, some 72, .bin .quo .i64 (.t 70) (.t 71), none⟩,
    ⟨15, some 74, .bin .mul .i64 (.t 72) (.t 73), none⟩,
    ⟨16, some 14, .move (.t 74), none⟩]) (.seq (.region [⟨0, some 75, .move (.t 10), none⟩,
    ⟨1, some 76, .move (.t 13), none⟩,
    ⟨2, some 77, .bin .add .i64 (.t 75) (.t 76), none⟩,
    ⟨3, some 78, .faddr 7 2, none⟩,
    ⟨4, some 79, .ldL 78 178 (.c (.int .i64)), none⟩,
    ⟨5, some 80, .cmp .leq .i64 (.t 77) (.t 79), none⟩,
    ⟨6, some 15, .move (.t 80), none⟩]) (.seq (.seq (.region [⟨0, some 16, .move (.k (.c (.int .i64 0))), none⟩]) (.block 2 hodmanlaw20_CeilHolds.c46)) hodmanlaw20_CeilHolds.c53)))))) (.cut [1, 2, 7, 9, 10, 11, 178] hodmanlaw20_CeilHolds.c60)))
def hodmanlaw20_CeilHolds.c63 : DCode := (.loop [1, 2, 7, 9, 10, 11, 178] hodmanlaw20_CeilHolds.c62)
def hodmanlaw20_CeilHolds.c90 : DCode := (.seq (.seq (.region [⟨0, some 124, .ldL 7 178 (.agg [.int .i64, .int .i64, .int .i64, .int .i64, .int .i64, .int .i64, .int .i64, .int .i64]), none⟩,
    ⟨1, some 125, .move (.t 9), none⟩,
    ⟨2, some 126, .call 30 [.t 124, .t 125] [.c (.bool)], none⟩,
    ⟨3, some 127, .not (.t 126), none⟩]) (.cond (.t 127) (.seq (.region [⟨0, some 6, .move (.k (.c (.bool false))), none⟩]) .ret) .skip)) (.seq (.region [⟨0, some 128, .move (.t 2), none⟩,
    ⟨1, some 129, .conv .i64 (.t 128), none⟩,
    ⟨2, some 130, .faddr 7 3, none⟩,
    ⟨3, some 131, .ldL 130 178 (.c (.int .i64)), none⟩,
    ⟨4, some 132, .bin .add .i64 (.t 131) (.k (.c (.int .i64 1))), none⟩,
    ⟨5, some 133, .bin .rem .i64 (.t 129) (.t 132), none⟩,
    ⟨6, some 17, .move (.t 133), none⟩]) (.seq (.region [⟨0, some 134, .ldL 7 178 (.agg [.int .i64, .int .i64, .int .i64, .int .i64, .int .i64, .int .i64, .int .i64, .int .i64]), none⟩,
    ⟨1, some 135, .move (.t 17), none⟩,
    ⟨2, some 136, .call 23 [.t 134, .t 135] [.c (.int .i64)], none⟩,
    ⟨3, some 18, .move (.t 136), none⟩]) (.seq (.seq (.region [⟨0, some 137, .move (.t 10), none⟩,
    ⟨1, some 138, .move (.t 18), none⟩,
    ⟨2, some 139, .bin .add .i64 (.t 137) (.t 138), none⟩,
    ⟨3, some 140, .faddr 7 2, none⟩,
    ⟨4, some 141, .ldL 140 178 (.c (.int .i64)), none⟩,
    ⟨5, some 142, .cmp .gtr .i64 (.t 139) (.t 141), none⟩]) (.cond (.t 142) (.seq (.region [⟨0, some 6, .move (.k (.c (.bool true))), none⟩]) .ret) .skip)) (.seq (.region [⟨0, some 144, .ldL 7 178 (.agg [.int .i64, .int .i64, .int .i64, .int .i64, .int .i64, .int .i64, .int .i64, .int .i64]), none⟩,
    ⟨1, some 145, .move (.t 9), none⟩,
    ⟨2, some 146, .move (.t 18), none⟩,
    ⟨3, some 147, .call 27 [.t 144, .t 145, .t 146] [.c (.int .i64), .c (.bool)], none⟩,
    ⟨4, some 143, .move (.t 147), none⟩,
    ⟨5, some 148, .ext 143 0, none⟩,
    ⟨6, some 149, .ext 143 1, none⟩,
    ⟨7, some 19, .move (.t 148), none⟩,
    ⟨8, some 20, .move (.t 149), none⟩]) (.seq (.region [⟨0, some 150, .move (.t 20), none⟩,
    ⟨1, some 151, .move (.t 150), none⟩,
    ⟨2, some 152, .move (.t 19), some (151, true)⟩,
    ⟨3, some 153, .move (.t 18), some (151, true)⟩,
    ⟨4, some 154, .bin .add .i64 (.t 152) (.t 153), some (151, true)⟩,
    ⟨5, some 155, .ldL 7 178 (.agg [.int .i64, .int .i64, .int .i64, .int .i64, .int .i64, .int .i64, .int .i64, .int .i64]), some (151, true)⟩,
    ⟨6, some 156, .move (.t 17), some (151, true)⟩,
    ⟨7, some 157, .call 22 [.t 155, .t 156] [.c (.int .i64)], some (151, true)⟩,
    ⟨8, some 158, .cmp .leq .i64 (.t 154) (.t 157), some (151, true)⟩,
    ⟨9, some 159, .pick (.t 151) (.t 158) (.k (.c (.bool false))), none⟩,
    ⟨10, some 160, .move (.t 159), none⟩,
    ⟨11, some 161, .ldL 7 178 (.agg [.int .i64, .int .i64, .int .i64, .int .i64, .int .i64, .int .i64, .int .i64, .int .i64]), some (160, true)⟩,
    ⟨12, some 162, .move (.t 17), some (160, true)⟩,
    ⟨13, some 163, .move (.t 19), some (160, true)⟩,
    ⟨14, some 164, .call 29 [.t 161, .t 162, .t 163] [.c (.int .i64)], some (160, true)⟩,
    ⟨15, some 165, .move (.t 10), some (160, true)⟩,
    ⟨16, some 166, .cmp .leq .i64 (.t 164) (.t 165), some (160, true)⟩,
    ⟨17, some 167, .pick (.t 160) (.t 166) (.k (.c (.bool false))), none⟩,
    ⟨18, some 168, .move (.t 167), none⟩,
    ⟨19, some 169, .ldL 7 178 (.agg [.int .i64, .int .i64, .int .i64, .int .i64, .int .i64, .int .i64, .int .i64, .int .i64]), some (168, true)⟩,
    ⟨20, some 170, .move (.t 9), some (168, true)⟩,
    ⟨21, some 171, .move (.t 19), some (168, true)⟩,
    ⟨22, some 172, .move (.t 18), some (168, true)⟩,
    ⟨23, some 173, .build [.int .i64 0, .int .i64 0, .int .i64 0] [(0, 1, .t 171), (1, 1, .t 172)], some (168, true)⟩,
    ⟨24, some 174, .bslice 1 3 [.int .i64 0, .int .i64 0, .int .i64 0] [(0, 3, .t 173)], some (168, true)⟩,
    ⟨25, some 175, .app (.t 170) (.t 174) 3 24, some (168, true)⟩,
    ⟨26, some 176, .call 30 [.t 169, .t 175] [.c (.bool)], some (168, true)⟩,
    ⟨27, some 177, .pick (.t 168) (.t 176) (.k (.c (.bool false))), none⟩,
    ⟨28, some 6, .move (.t 177), none⟩]) .ret))))))
def hodmanlaw20_CeilHolds.c95 : DCode := (.seq (.region [⟨0, some 32, .move (.t 0), none⟩,
    ⟨1, some 33, .call 13 [.t 32] [.c (.ptr)], none⟩,
    ⟨2, some 34, .call 14 [.t 33, .k (.c (.bool false))] [.agg [.int .i64, .int .i64, .int .i64, .int .i64, .int .i64, .int .i64, .int .i64, .int .i64], .agg [.int .i64, .int .i64, .int .i64, .int .i64, .int .i64, .int .i64]], none⟩,
    ⟨3, some 31, .move (.t 34), none⟩,
    ⟨4, some 35, .ext 31 0, none⟩,
    ⟨5, some 36, .ext 31 1, none⟩,
    ⟨6, some 7, .boxz 178 [37, 52, 78, 130, 140] [.int .i64 0, .int .i64 0, .int .i64 0, .int .i64 0, .int .i64 0, .int .i64 0, .int .i64 0, .int .i64 0], none⟩,
    ⟨7, some 8, .boxz 179 [] [.int .i64 0, .int .i64 0, .int .i64 0, .int .i64 0, .int .i64 0, .int .i64 0], none⟩,
    ⟨8, none, .stL 7 178 (.t 35) 8, none⟩,
    ⟨9, none, .stL 8 179 (.t 36) 6, none⟩]) (.seq (.seq (.region [⟨0, some 37, .faddr 7 0, none⟩,
    ⟨1, some 38, .ldL 37 178 (.c (.int .i64)), none⟩,
    ⟨2, some 39, .cmp .eql .i64 (.t 38) (.k (.c (.int .i64 0))), none⟩]) (.cond (.t 39) (.seq (.region [⟨0, some 6, .move (.k (.c (.bool true))), none⟩]) .ret) .skip)) (.seq (.region [⟨0, some 9, .move (.k (.c (.sl 3 0 0 0))), none⟩]) (.seq (.region [⟨0, some 10, .move (.k (.c (.int .i64 0))), none⟩]) (.seq (.seq (.region [⟨0, some 11, .move (.k (.c (.int .i64 0))), none⟩]) (.block 0 hodmanlaw20_CeilHolds.c63)) hodmanlaw20_CeilHolds.c90)))))
def hodmanlaw20_CeilHolds.d : DFn := { ntmps := 180, res := [.t 6], body := (.seq (.region [⟨0, some 6, .move (.k (.c (.bool false))), none⟩]) (.seq (.seq (.region [⟨0, some 21, .call 28 [] [.c (.bool)], none⟩,
    ⟨1, some 22, .not (.t 21), none⟩]) (.cond (.t 22) (.seq (.region [⟨0, some 6, .move (.k (.c (.bool false))), none⟩]) .ret) .skip)) (.seq (.seq (.region [⟨0, some 23, .move (.t 0), none⟩,
    ⟨1, some 24, .len (.t 23), none⟩,
    ⟨2, some 25, .cmp .gtr .i64 (.t 24) (.k (.c (.int .i64 6))), none⟩,
    ⟨3, some 26, .move (.t 25), none⟩,
    ⟨4, some 27, .move (.t 1), some (26, false)⟩,
    ⟨5, some 28, .len (.t 27), some (26, false)⟩,
    ⟨6, some 29, .cmp .gtr .i64 (.t 28) (.k (.c (.int .i64 40))), some (26, false)⟩,
    ⟨7, some 30, .pick (.t 26) (.k (.c (.bool true))) (.t 29), none⟩]) (.cut [0, 1, 2, 30] hodmanlaw20_CeilHolds.c13)) hodmanlaw20_CeilHolds.c95))) }
def hodmanlaw20_CeilHolds.k95 (M : Mach) (C : Call) : Kont := execC M.j C (M.ag C) hodmanlaw20_CeilHolds.c95 ({ exits := [], ret := retK hodmanlaw20_CeilHolds.d } : Env) (retK hodmanlaw20_CeilHolds.d)
def hodmanlaw20_CeilHolds.J13 (M : Mach) (C : Call) (t0i : Nat) (t0o : Nat) (t0n : Nat) (o1i : Nat) (o1o : Nat) (o1n : Nat) (A2 : Int) (t30 : Bool) (G : GH) : Option Res := M.j (execC M.j C (M.ag C) hodmanlaw20_CeilHolds.c13 ({ exits := [], ret := retK hodmanlaw20_CeilHolds.d } : Env) (hodmanlaw20_CeilHolds.k95 M C)) [.v (.c (.sl 1 t0i t0o t0n)), .v (.c (.sl 2 o1i o1o o1n)), .v (.c (.int .u8 A2)), .und, .und, .und, .und, .und, .und, .und, .und, .und, .und, .und, .und, .und, .und, .und, .und, .und, .und, .und, .und, .und, .und, .und, .und, .und, .und, .und, .v (.c (.bool t30)), .und, .und, .und, .und, .und, .und, .und, .und, .und, .und, .und, .und, .und, .und, .und, .und, .und, .und, .und, .und, .und, .und, .und, .und, .und, .und, .und, .und, .und, .und, .und, .und, .und, .und, .und, .und, .und, .und, .und, .und, .und, .und, .und, .und, .und, .und, .und, .und, .und, .und, .und, .und, .und, .und, .und, .und, .und, .und, .und, .und, .und, .und, .und, .und, .und, .und, .und, .und, .und, .und, .und, .und, .und, .und, .und, .und, .und, .und, .und, .und, .und, .und, .und, .und, .und, .und, .und, .und, .und, .und, .und, .und, .und, .und, .und, .und, .und, .und, .und, .und, .und, .und, .und, .und, .und, .und, .und, .und, .und, .und, .und, .und, .und, .und, .und, .und, .und, .und, .und, .und, .und, .und, .und, .und, .und, .und, .und, .und, .und, .und, .und, .und, .und, .und, .und, .und, .und, .und, .und, .und, .und, .und, .und, .und, .und, .und, .und, .und, .und] G
def hodmanlaw20_CeilHolds.k90 (M : Mach) (C : Call) : Kont := execC M.j C (M.ag C) hodmanlaw20_CeilHolds.c90 ({ exits := [], ret := retK hodmanlaw20_CeilHolds.d } : Env) (retK hodmanlaw20_CeilHolds.d)
def hodmanlaw20_CeilHolds.e64 (M : Mach) (C : Call) : Env := { exits := (0, (hodmanlaw20_CeilHolds.k90 M C)) :: (({ exits := [], ret := retK hodmanlaw20_CeilHolds.d } : Env)).exits, ret := (({ exits := [], ret := retK hodmanlaw20_CeilHolds.d } : Env)).ret }
def hodmanlaw20_CeilHolds.L63 (M : Mach) (C : Call) (o1i : Nat) (o1o : Nat) (o1n : Nat) (A2 : Int) (t9i : Nat) (t9o : Nat) (t9n : Nat) (t10 : Int) (t11 : Int) (x178_0 : Int) (x178_1 : Int) (x178_2 : Int) (x178_3 : Int) (x178_4 : Int) (x178_5 : Int) (x178_6 : Int) (x178_7 : Int) (G : GH) : Option Res := M.ag C [1, 2, 7, 9, 10, 11, 178] hodmanlaw20_CeilHolds.c62 (hodmanlaw20_CeilHolds.e64 M C) (hodmanlaw20_CeilHolds.k90 M C) [.und, .v (.c (.sl 2 o1i o1o o1n)), .v (.c (.int .u8 A2)), .und, .und, .und, .und, .ref 178 0, .und, .v (.c (.sl 3 t9i t9o t9n)), .v (.c (.int .i64 t10)), .v (.c (.int .i64 t11)), .und, .und, .und, .und, .und, .und, .und, .und, .und, .und, .und, .und, .und, .und, .und, .und, .und, .und, .und, .und, .und, .und, .und, .und, .und, .und, .und, .und, .und, .und, .und, .und, .und, .und, .und, .und, .und, .und, .und, .und, .und, .und, .und, .und, .und, .und, .und, .und, .und, .und, .und, .und, .und, .und, .und, .und, .und, .und, .und, .und, .und, .und, .und, .und, .und, .und, .und, .und, .und, .und, .und, .und, .und, .und, .und, .und, .und, .und, .und, .und, .und, .und, .und, .und, .und, .und, .und, .und, .und, .und, .und, .und, .und, .und, .und, .und, .und, .und, .und, .und, .und, .und, .und, .und, .und, .und, .und, .und, .und, .und, .und, .und, .und, .und, .und, .und, .und, .und, .und, .und, .und, .und, .und, .und, .und, .und, .und, .und, .und, .und, .und, .und, .und, .und, .und, .und, .und, .und, .und, .und, .und, .und, .und, .und, .und, .und, .und, .und, .und, .und, .und, .und, .und, .und, .und, .und, .und, .und, .und, .und, .und, .und, .und, .und, .und, .und, .box [.int .i64 x178_0, .int .i64 x178_1, .int .i64 x178_2, .int .i64 x178_3, .int .i64 x178_4, .int .i64 x178_5, .int .i64 x178_6, .int .i64 x178_7], .und] G
def hodmanlaw20_CeilHolds.k63 (M : Mach) (C : Call) : Kont := fun tm G => M.ag C [1, 2, 7, 9, 10, 11, 178] hodmanlaw20_CeilHolds.c62 (hodmanlaw20_CeilHolds.e64 M C) (hodmanlaw20_CeilHolds.k90 M C) (restr [1, 2, 7, 9, 10, 11, 178] 0 tm) G
def hodmanlaw20_CeilHolds.k60 (M : Mach) (C : Call) : Kont := execC M.j C (M.ag C) (.cut [1, 2, 7, 9, 10, 11, 178] hodmanlaw20_CeilHolds.c60) (hodmanlaw20_CeilHolds.e64 M C) (hodmanlaw20_CeilHolds.k63 M C)
def hodmanlaw20_CeilHolds.e59 (M : Mach) (C : Call) : Env := { exits := (1, (hodmanlaw20_CeilHolds.k60 M C)) :: ((hodmanlaw20_CeilHolds.e64 M C)).exits, ret := ((hodmanlaw20_CeilHolds.e64 M C)).ret }
def hodmanlaw20_CeilHolds.k53 (M : Mach) (C : Call) : Kont := execC M.j C (M.ag C) hodmanlaw20_CeilHolds.c53 (hodmanlaw20_CeilHolds.e59 M C) (hodmanlaw20_CeilHolds.k60 M C)
def hodmanlaw20_CeilHolds.e47 (M : Mach) (C : Call) : Env := { exits := (2, (hodmanlaw20_CeilHolds.k53 M C)) :: ((hodmanlaw20_CeilHolds.e59 M C)).exits, ret := ((hodmanlaw20_CeilHolds.e59 M C)).ret }
def hodmanlaw20_CeilHolds.L46 (M : Mach) (C : Call) (o1i : Nat) (o1o : Nat) (o1n : Nat) (A2 : Int) (t9i : Nat) (t9o : Nat) (t9n : Nat) (t10 : Int) (t11 : Int) (t13 : Int) (t14 : Int) (t15 : Bool) (t16 : Int) (x178_0 : Int) (x178_1 : Int) (x178_2 : Int) (x178_3 : Int) (x178_4 : Int) (x178_5 : Int) (x178_6 : Int) (x178_7 : Int) (G : GH) : Option Res := M.ag C [1, 2, 7, 9, 10, 11, 13, 14, 15, 16, 178] hodmanlaw20_CeilHolds.c45 (hodmanlaw20_CeilHolds.e47 M C) (hodmanlaw20_CeilHolds.k53 M C) [.und, .v (.c (.sl 2 o1i o1o o1n)), .v (.c (.int .u8 A2)), .und, .und, .und, .und, .ref 178 0, .und, .v (.c (.sl 3 t9i t9o t9n)), .v (.c (.int .i64 t10)), .v (.c (.int .i64 t11)), .und, .v (.c (.int .i64 t13)), .v (.c (.int .i64 t14)), .v (.c (.bool t15)), .v (.c (.int .i64 t16)), .und, .und, .und, .und, .und, .und, .und, .und, .und, .und, .und, .und, .und, .und, .und, .und, .und, .und, .und, .und, .und, .und, .und, .und, .und, .und, .und, .und, .und, .und, .und, .und, .und, .und, .und, .und, .und, .und, .und, .und, .und, .und, .und, .und, .und, .und, .und, .und, .und, .und, .und, .und, .und, .und, .und, .und, .und, .und, .und, .und, .und, .und, .und, .und, .und, .und, .und, .und, .und, .und, .und, .und, .und, .und, .und, .und, .und, .und, .und, .und, .und, .und, .und, .und, .und, .und, .und, .und, .und, .und, .und, .und, .und, .und, .und, .und, .und, .und, .und, .und, .und, .und, .und, .und, .und, .und, .und, .und, .und, .und, .und, .und, .und, .und, .und, .und, .und, .und, .und, .und, .und, .und, .und, .und, .und, .und, .und, .und, .und, .und, .und, .und, .und, .und, .und, .und, .und, .und, .und, .und, .und, .und, .und, .und, .und, .und, .und, .und, .und, .und, .und, .und, .und, .und, .und, .und, .und, .und, .und, .und, .und, .box [.int .i64 x178_0, .int .i64 x178_1, .int .i64 x178_2, .int .i64 x178_3, .int .i64 x178_4, .int .i64 x178_5, .int .i64 x178_6, .int .i64 x178_7], .und] G
def hodmanlaw20_CeilHolds.k46 (M : Mach) (C : Call) : Kont := fun tm G => M.ag C [1, 2, 7, 9, 10, 11, 13, 14, 15, 16, 178] hodmanlaw20_CeilHolds.c45 (hodmanlaw20_CeilHolds.e47 M C) (hodmanlaw20_CeilHolds.k53 M C) (restr [1, 2, 7, 9, 10, 11, 13, 14, 15, 16, 178] 0 tm) G
def hodmanlaw20_CeilHolds.k44 (M : Mach) (C : Call) : Kont := execC M.j C (M.ag C) hodmanlaw20_CeilHolds.c44 (hodmanlaw20_CeilHolds.e47 M C) (hodmanlaw20_CeilHolds.k46 M C)
def hodmanlaw20_CeilHolds.J39 (M : Mach) (C : Call) (o1i : Nat) (o1o : Nat) (o1n : Nat) (A2 : Int) (t9i : Nat) (t9o : Nat) (t9n : Nat) (t10 : Int) (t11 : Int) (t13 : Int) (t14 : Int) (t15 : Bool) (t16 : Int) (t87 : Bool) (x178_0 : Int) (x178_1 : Int) (x178_2 : Int) (x178_3 : Int) (x178_4 : Int) (x178_5 : Int) (x178_6 : Int) (x178_7 : Int) (G : GH) : Option Res := M.j (execC M.j C (M.ag C) hodmanlaw20_CeilHolds.c39 (hodmanlaw20_CeilHolds.e47 M C) (hodmanlaw20_CeilHolds.k44 M C)) [.und, .v (.c (.sl 2 o1i o1o o1n)), .v (.c (.int .u8 A2)), .und, .und, .und, .und, .ref 178 0, .und, .v (.c (.sl 3 t9i t9o t9n)), .v (.c (.int .i64 t10)), .v (.c (.int .i64 t11)), .und, .v (.c (.int .i64 t13)), .v (.c (.int .i64 t14)), .v (.c (.bool t15)), .v (.c (.int .i64 t16)), .und, .und, .und, .und, .und, .und, .und, .und, .und, .und, .und, .und, .und, .und, .und, .und, .und, .und, .und, .und, .und, .und, .und, .und, .und, .und, .und, .und, .und, .und, .und, .und, .und, .und, .und, .und, .und, .und, .und, .und, .und, .und, .und, .und, .und, .und, .und, .und, .und, .und, .und, .und, .und, .und, .und, .und, .und, .und, .und, .und, .und, .und, .und, .und, .und, .und, .und, .und, .und, .und, .v (.c (.bool t87)), .und, .und, .und, .und, .und, .und, .und, .und, .und, .und, .und, .und, .und, .und, .und, .und, .und, .und, .und, .und, .und, .und, .und, .und, .und, .und, .und, .und, .und, .und, .und, .und, .und, .und, .und, .und, .und, .und, .und, .und, .und, .und, .und, .und, .und, .und, .und, .und, .und, .und, .und, .und, .und, .und, .und, .und, .und, .und, .und, .und, .und, .und, .und, .und, .und, .und, .und, .und, .und, .und, .und, .und, .und, .und, .und, .und, .und, .und, .und, .und, .und, .und, .und, .und, .und, .und, .und, .und, .und, .und, .box [.int .i64 x178_0, .int .i64 x178_1, .int .i64 x178_2, .int .i64 x178_3, .int .i64 x178_4, .int .i64 x178_5, .int .i64 x178_6, .int .i64 x178_7], .und] G
def hodmanlaw20_CeilHolds.J43 (M : Mach) (C : Call) (o1i : Nat) (o1o : Nat) (o1n : Nat) (A2 : Int) (t9i : Nat) (t9o : Nat) (t9n : Nat) (t10 : Int) (t11 : Int) (t13 : Int) (t14 : Int) (t15 : Bool) (t16 : Int) (x178_0 : Int) (x178_1 : Int) (x178_2 : Int) (x178_3 : Int) (x178_4 : Int) (x178_5 : Int) (x178_6 : Int) (x178_7 : Int) (G : GH) : Option Res := M.j (execC M.j C (M.ag C) hodmanlaw20_CeilHolds.c43 (hodmanlaw20_CeilHolds.e47 M C) (hodmanlaw20_CeilHolds.k46 M C)) [.und, .v (.c (.sl 2 o1i o1o o1n)), .v (.c (.int .u8 A2)), .und, .und, .und, .und, .ref 178 0, .und, .v (.c (.sl 3 t9i t9o t9n)), .v (.c (.int .i64 t10)), .v (.c (.int .i64 t11)), .und, .v (.c (.int .i64 t13)), .v (.c (.int .i64 t14)), .v (.c (.bool t15)), .v (.c (.int .i64 t16)), .und, .und, .und, .und, .und, .und, .und, .und, .und, .und, .und, .und, .und, .und, .und, .und, .und, .und, .und, .und, .und, .und, .und, .und, .und, .und, .und, .und, .und, .und, .und, .und, .und, .und, .und, .und, .und, .und, .und, .und, .und, .und, .und, .und, .und, .und, .und, .und, .und, .und, .und, .und, .und, .und, .und, .und, .und, .und, .und, .und, .und, .und, .und, .und, .und, .und, .und, .und, .und, .und, .und, .und, .und, .und, .und, .und, .und, .und, .und, .und, .und, .und, .und, .und, .und, .und, .und, .und, .und, .und, .und, .und, .und, .und, .und, .und, .und, .und, .und, .und, .und, .und, .und, .und, .und, .und, .und, .und, .und, .und, .und, .und, .und, .und, .und, .und, .und, .und, .und, .und, .und, .und, .und, .und, .und, .und, .und, .und, .und, .und, .und, .und, .und, .und, .und, .und, .und, .und, .und, .und, .und, .und, .und, .und, .und, .und, .und, .und, .und, .und, .und, .und, .und, .und, .und, .und, .und, .und, .und, .und, .und, .box [.int .i64 x178_0, .int .i64 x178_1, .int .i64 x178_2, .int .i64 x178_3, .int .i64 x178_4, .int .i64 x178_5, .int .i64 x178_6, .int .i64 x178_7], .und] G
def hodmanlaw20_CeilHolds.J60 (M : Mach) (C : Call) (o1i : Nat) (o1o : Nat) (o1n : Nat) (A2 : Int) (t9i : Nat) (t9o : Nat) (t9n : Nat) (t10 : Int) (t11 : Int) (x178_0 : Int) (x178_1 : Int) (x178_2 : Int) (x178_3 : Int) (x178_4 : Int) (x178_5 : Int) (x178_6 : Int) (x178_7 : Int) (G : GH) : Option Res := M.j (execC M.j C (M.ag C) hodmanlaw20_CeilHolds.c60 (hodmanlaw20_CeilHolds.e64 M C) (hodmanlaw20_CeilHolds.k63 M C)) [.und, .v (.c (.sl 2 o1i o1o o1n)), .v (.c (.int .u8 A2)), .und, .und, .und, .und, .ref 178 0, .und, .v (.c (.sl 3 t9i t9o t9n)), .v (.c (.int .i64 t10)), .v (.c (.int .i64 t11)), .und, .und, .und, .und, .und, .und, .und, .und, .und, .und, .und, .und, .und, .und, .und, .und, .und, .und, .und, .und, .und, .und, .und, .und, .und, .und, .und, .und, .und, .und, .und, .und, .und, .und, .und, .und, .und, .und, .und, .und, .und, .und, .und, .und, .und, .und, .und, .und, .und, .und, .und, .und, .und, .und, .und, .und, .und, .und, .und, .und, .und, .und, .und, .und, .und, .und, .und, .und, .und, .und, .und, .und, .und, .und, .und, .und, .und, .und, .und, .und, .und, .und, .und, .und, .und, .und, .und, .und, .und, .und, .und, .und, .und, .und, .und, .und, .und, .und, .und, .und, .und, .und, .und, .und, .und, .und, .und, .und, .und, .und, .und, .und, .und, .und, .und, .und, .und, .und, .und, .und, .und, .und, .und, .und, .und, .und, .und, .und, .und, .und, .und, .und, .und, .und, .und, .und, .und, .und, .und, .und, .und, .und, .und, .und, .und, .und, .und, .und, .und, .und, .und, .und, .und, .und, .und, .und, .und, .und, .und, .und, .und, .und, .und, .und, .und, .und, .box [.int .i64 x178_0, .int .i64 x178_1, .int .i64 x178_2, .int .i64 x178_3, .int .i64 x178_4, .int .i64 x178_5, .int .i64 x178_6, .int .i64 x178_7], .und] G
theorem hodmanlaw20_CeilHolds.J13_eq (M : Mach) (C : Call) (t0i : Nat) (t0o : Nat) (t0n : Nat) (o1i : Nat) (o1o : Nat) (o1n : Nat) (A2 : Int) (t30 : Bool) (G : GH) : hodmanlaw20_CeilHolds.J13 M C t0i t0o t0n o1i o1o o1n A2 t30 G = (bif t30 then some ([.c (.bool true)], G) else (C hodmanplay_Made.id [.c (.sl 1 t0i t0o t0n)] G).bind fun qr_3 => (((qr_3.1[0]?).bind V1.c?).bind Cell.asP).bind fun qp_4 => (C hodmanplay_Picks_Conf.id [.c (.ptr qp_4.1 qp_4.2), .c (.bool false)] qr_3.2).bind fun qr_5 => ((qr_5.1[0]?).bind V1.a?).bind fun qcs_6 => if qcs_6.length = 8 then (((qcs_6[0]?).bind (Cell.asI .i64)).bind fun qx_7 => ((qcs_6[1]?).bind (Cell.asI .i64)).bind fun qx_8 => ((qcs_6[2]?).bind (Cell.asI .i64)).bind fun qx_9 => ((qcs_6[3]?).bind (Cell.asI .i64)).bind fun qx_10 => ((qcs_6[4]?).bind (Cell.asI .i64)).bind fun qx_11 => ((qcs_6[5]?).bind (Cell.asI .i64)).bind fun qx_12 => ((qcs_6[6]?).bind (Cell.asI .i64)).bind fun qx_13 => ((qcs_6[7]?).bind (Cell.asI .i64)).bind fun qx_14 => ((qr_5.1[1]?).bind V1.a?).bind fun qcs_15 => if qcs_15.length = 6 then (((qcs_15[0]?).bind (Cell.asI .i64)).bind fun qx_16 => ((qcs_15[1]?).bind (Cell.asI .i64)).bind fun qx_17 => ((qcs_15[2]?).bind (Cell.asI .i64)).bind fun qx_18 => ((qcs_15[3]?).bind (Cell.asI .i64)).bind fun qx_19 => ((qcs_15[4]?).bind (Cell.asI .i64)).bind fun qx_20 => ((qcs_15[5]?).bind (Cell.asI .i64)).bind fun qx_21 => bif decide (qx_7 = 0) then some ([.c (.bool true)], qr_5.2) else hodmanlaw20_CeilHolds.L63 M C o1i o1o o1n A2 0 0 0 0 0 qx_7 qx_8 qx_9 qx_10 qx_11 qx_12 qx_13 qx_14 qr_5.2) else none) else none) := (M.hj _ _ _).trans (by kernel_rfl)
theorem hodmanlaw20_CeilHolds.L63_eq (M : Mach) (C : Call) (o1i : Nat) (o1o : Nat) (o1n : Nat) (A2 : Int) (t9i : Nat) (t9o : Nat) (t9n : Nat) (t10 : Int) (t11 : Int) (x178_0 : Int) (x178_1 : Int) (x178_2 : Int) (x178_3 : Int) (x178_4 : Int) (x178_5 : Int) (x178_6 : Int) (x178_7 : Int) (G : GH) : hodmanlaw20_CeilHolds.L63 M C o1i o1o o1n A2 t9i t9o t9n t10 t11 x178_0 x178_1 x178_2 x178_3 x178_4 x178_5 x178_6 x178_7 G = (bif decide (t11 < ((o1n : Nat) : Int)) then guardK (decide (0 ≤ t11 ∧ t11 < ((o1n : Nat) : Int))) (guardK (decide (0 ≤ (0 : Int) ∧ (0 : Int) < ((2 : Nat) : Int))) (((G.ld o1i ((o1o + Int.toNat t11 * 2) + Int.toNat 0 * 1)).bind (Cell.asI .u8)).bind fun qx_22 => (binD .rem .i64 (IntKind.i64.wrap qx_22) (IntKind.i64.wrap (x178_3 + 1))).bind fun qx_23 => (C hodmanref1_Size.id [.agg [.int .i64 x178_0, .int .i64 x178_1, .int .i64 x178_2, .int .i64 x178_3, .int .i64 x178_4, .int .i64 x178_5, .int .i64 x178_6, .int .i64 x178_7], .c (.int .i64 qx_23)] G).bind fun qr_24 => (((qr_24.1[0]?).bind V1.c?).bind (Cell.asI .i64)).bind fun qx_25 => guardK (decide (0 ≤ t11 ∧ t11 < ((o1n : Nat) : Int))) (guardK (decide (0 ≤ (1 : Int) ∧ (1 : Int) < ((2 : Nat) : Int))) (((qr_24.2.ld o1i ((o1o + Int.toNat t11 * 2) + Int.toNat 1 * 1)).bind (Cell.asI .u8)).bind fun qx_26 => (C hodmanref1_Ceil.id [.agg [.int .i64 x178_0, .int .i64 x178_1, .int .i64 x178_2, .int .i64 x178_3, .int .i64 x178_4, .int .i64 x178_5, .int .i64 x178_6, .int .i64 x178_7], .c (.int .i64 qx_23)] qr_24.2).bind fun qr_27 => (((qr_27.1[0]?).bind V1.c?).bind (Cell.asI .i64)).bind fun qx_28 => ((qr_27.2.ld o1i ((o1o + Int.toNat t11 * 2) + Int.toNat 1 * 1)).bind (Cell.asI .u8)).bind fun qx_29 => guardK (decide ((.c (.int .u8 qx_26) : V1) = .c (.int .u8 qx_29))) ((binD .rem .i64 (IntKind.i64.wrap ((IntKind.i64.wrap qx_26) * qx_25)) qx_28).bind fun qx_30 => (binD .quo .i64 qx_30 qx_25).bind fun qx_31 => hodmanlaw20_CeilHolds.L46 M C o1i o1o o1n A2 t9i t9o t9n t10 t11 qx_25 (IntKind.i64.wrap (qx_31 * qx_25)) (decide (IntKind.i64.wrap (t10 + qx_25) ≤ x178_2)) 0 x178_0 x178_1 x178_2 x178_3 x178_4 x178_5 x178_6 x178_7 qr_27.2))))) else (C ceil_Within.id [.agg [.int .i64 x178_0, .int .i64 x178_1, .int .i64 x178_2, .int .i64 x178_3, .int .i64 x178_4, .int .i64 x178_5, .int .i64 x178_6, .int .i64 x178_7], .c (.sl 3 t9i t9o t9n)] G).bind fun qr_32 => (((qr_32.1[0]?).bind V1.c?).bind Cell.asB).bind fun qb_33 => bif (!qb_33) then some ([.c (.bool false)], qr_32.2) else (binD .rem .i64 (IntKind.i64.wrap A2) (IntKind.i64.wrap (x178_3 + 1))).bind fun qx_34 => (C hodmanref1_Size.id [.agg [.int .i64 x178_0, .int .i64 x178_1, .int .i64 x178_2, .int .i64 x178_3, .int .i64 x178_4, .int .i64 x178_5, .int .i64 x178_6, .int .i64 x178_7], .c (.int .i64 qx_34)] qr_32.2).bind fun qr_35 => (((qr_35.1[0]?).bind V1.c?).bind (Cell.asI .i64)).bind fun qx_36 => bif decide (IntKind.i64.wrap (t10 + qx_36) > x178_2) then some ([.c (.bool true)], qr_35.2) else (C hodmanref17_Lowest.id [.agg [.int .i64 x178_0, .int .i64 x178_1, .int .i64 x178_2, .int .i64 x178_3, .int .i64 x178_4, .int .i64 x178_5, .int .i64 x178_6, .int .i64 x178_7], .c (.sl 3 t9i t9o t9n), .c (.int .i64 qx_36)] qr_35.2).bind fun qr_37 => (((qr_37.1[0]?).bind V1.c?).bind (Cell.asI .i64)).bind fun qx_38 => (((qr_37.1[1]?).bind V1.c?).bind Cell.asB).bind fun qb_39 => bif qb_39 then (C hodmanref1_Ceil.id [.agg [.int .i64 x178_0, .int .i64 x178_1, .int .i64 x178_2, .int .i64 x178_3, .int .i64 x178_4, .int .i64 x178_5, .int .i64 x178_6, .int .i64 x178_7], .c (.int .i64 qx_34)] qr_37.2).bind fun qr_40 => (((qr_40.1[0]?).bind V1.c?).bind (Cell.asI .i64)).bind fun qx_41 => bif decide (IntKind.i64.wrap (qx_38 + qx_36) ≤ qx_41) then (C ceil_Least.id [.agg [.int .i64 x178_0, .int .i64 x178_1, .int .i64 x178_2, .int .i64 x178_3, .int .i64 x178_4, .int .i64 x178_5, .int .i64 x178_6, .int .i64 x178_7], .c (.int .i64 qx_34), .c (.int .i64 qx_38)] qr_40.2).bind fun qr_42 => (((qr_42.1[0]?).bind V1.c?).bind (Cell.asI .i64)).bind fun qx_43 => bif decide (qx_43 ≤ t10) then let qG_44 := qr_42.2.alloc (.row [.int .i64 qx_38, .int .i64 qx_36, .int .i64 0] false); (if 1 = 0 then some [] else qG_44.lds qr_42.2.next 0 (1 * 3)).bind fun qnew_45 => guardK (decide (t9n + 1 ≤ most)) ((qG_44.app t9i t9o t9n 3 1 qnew_45).bind fun qp_46 => (C ceil_Within.id [.agg [.int .i64 x178_0, .int .i64 x178_1, .int .i64 x178_2, .int .i64 x178_3, .int .i64 x178_4, .int .i64 x178_5, .int .i64 x178_6, .int .i64 x178_7], .c (.sl 3 qp_46.1 qp_46.2.1 (t9n + 1))] qp_46.2.2).bind fun qr_47 => (((qr_47.1[0]?).bind V1.c?).bind Cell.asB).bind fun qb_48 => some ([.c (.bool qb_48)], qr_47.2)) else some ([.c (.bool false)], qr_42.2) else some ([.c (.bool false)], qr_40.2) else some ([.c (.bool false)], qr_37.2)) := (M.hs _ _ _ _ _ _ _).trans (by kernel_rfl)
theorem hodmanlaw20_CeilHolds.L46_eq (M : Mach) (C : Call) (o1i : Nat) (o1o : Nat) (o1n : Nat) (A2 : Int) (t9i : Nat) (t9o : Nat) (t9n : Nat) (t10 : Int) (t11 : Int) (t13 : Int) (t14 : Int) (t15 : Bool) (t16 : Int) (x178_0 : Int) (x178_1 : Int) (x178_2 : Int) (x178_3 : Int) (x178_4 : Int) (x178_5 : Int) (x178_6 : Int) (x178_7 : Int) (G : GH) : hodmanlaw20_CeilHolds.L46 M C o1i o1o o1n A2 t9i t9o t9n t10 t11 t13 t14 t15 t16 x178_0 x178_1 x178_2 x178_3 x178_4 x178_5 x178_6 x178_7 G = (bif decide (t16 < ((t9n : Nat) : Int)) then hodmanlaw20_CeilHolds.J39 M C o1i o1o o1n A2 t9i t9o t9n t10 t11 t13 t14 t15 t16 t15 x178_0 x178_1 x178_2 x178_3 x178_4 x178_5 x178_6 x178_7 G else hodmanlaw20_CeilHolds.J39 M C o1i o1o o1n A2 t9i t9o t9n t10 t11 t13 t14 t15 t16 false x178_0 x178_1 x178_2 x178_3 x178_4 x178_5 x178_6 x178_7 G) := (M.hs _ _ _ _ _ _ _).trans (by kernel_rfl)
theorem hodmanlaw20_CeilHolds.J39_eq (M : Mach) (C : Call) (o1i : Nat) (o1o : Nat) (o1n : Nat) (A2 : Int) (t9i : Nat) (t9o : Nat) (t9n : Nat) (t10 : Int) (t11 : Int) (t13 : Int) (t14 : Int) (t15 : Bool) (t16 : Int) (t87 : Bool) (x178_0 : Int) (x178_1 : Int) (x178_2 : Int) (x178_3 : Int) (x178_4 : Int) (x178_5 : Int) (x178_6 : Int) (x178_7 : Int) (G : GH) : hodmanlaw20_CeilHolds.J39 M C o1i o1o o1n A2 t9i t9o t9n t10 t11 t13 t14 t15 t16 t87 x178_0 x178_1 x178_2 x178_3 x178_4 x178_5 x178_6 x178_7 G = (bif t87 then guardK (decide (0 ≤ t16 ∧ t16 < ((t9n : Nat) : Int))) (((G.ld t9i ((t9o + Int.toNat t16 * 3) + 0)).bind (Cell.asI .i64)).bind fun qx_49 => bif decide (IntKind.i64.wrap (t14 + t13) ≤ qx_49) then hodmanlaw20_CeilHolds.J43 M C o1i o1o o1n A2 t9i t9o t9n t10 t11 t13 t14 true t16 x178_0 x178_1 x178_2 x178_3 x178_4 x178_5 x178_6 x178_7 G else guardK (decide (0 ≤ t16 ∧ t16 < ((t9n : Nat) : Int))) (((G.ld t9i ((t9o + Int.toNat t16 * 3) + 0)).bind (Cell.asI .i64)).bind fun qx_50 => guardK (decide (0 ≤ t16 ∧ t16 < ((t9n : Nat) : Int))) (((G.ld t9i ((t9o + Int.toNat t16 * 3) + 1)).bind (Cell.asI .i64)).bind fun qx_51 => hodmanlaw20_CeilHolds.J43 M C o1i o1o o1n A2 t9i t9o t9n t10 t11 t13 t14 (decide (IntKind.i64.wrap (qx_50 + qx_51) ≤ t14)) t16 x178_0 x178_1 x178_2 x178_3 x178_4 x178_5 x178_6 x178_7 G))) else bif t15 then let qG_52 := G.alloc (.row [.int .i64 t14, .int .i64 t13, .int .i64 0] false); (if 1 = 0 then some [] else qG_52.lds G.next 0 (1 * 3)).bind fun qnew_53 => guardK (decide (t9n + 1 ≤ most)) ((qG_52.app t9i t9o t9n 3 1 qnew_53).bind fun qp_54 => hodmanlaw20_CeilHolds.J60 M C o1i o1o o1n A2 qp_54.1 qp_54.2.1 (t9n + 1) (IntKind.i64.wrap (t10 + t13)) t11 x178_0 x178_1 x178_2 x178_3 x178_4 x178_5 x178_6 x178_7 qp_54.2.2) else hodmanlaw20_CeilHolds.J60 M C o1i o1o o1n A2 t9i t9o t9n t10 t11 x178_0 x178_1 x178_2 x178_3 x178_4 x178_5 x178_6 x178_7 G) := (M.hj _ _ _).trans (by kernel_rfl)
theorem hodmanlaw20_CeilHolds.J43_eq (M : Mach) (C : Call) (o1i : Nat) (o1o : Nat) (o1n : Nat) (A2 : Int) (t9i : Nat) (t9o : Nat) (t9n : Nat) (t10 : Int) (t11 : Int) (t13 : Int) (t14 : Int) (t15 : Bool) (t16 : Int) (x178_0 : Int) (x178_1 : Int) (x178_2 : Int) (x178_3 : Int) (x178_4 : Int) (x178_5 : Int) (x178_6 : Int) (x178_7 : Int) (G : GH) : hodmanlaw20_CeilHolds.J43 M C o1i o1o o1n A2 t9i t9o t9n t10 t11 t13 t14 t15 t16 x178_0 x178_1 x178_2 x178_3 x178_4 x178_5 x178_6 x178_7 G = (hodmanlaw20_CeilHolds.L46 M C o1i o1o o1n A2 t9i t9o t9n t10 t11 t13 t14 t15 (IntKind.i64.wrap (t16 + 1)) x178_0 x178_1 x178_2 x178_3 x178_4 x178_5 x178_6 x178_7 G) := (M.hj _ _ _).trans (by kernel_rfl)
theorem hodmanlaw20_CeilHolds.J60_eq (M : Mach) (C : Call) (o1i : Nat) (o1o : Nat) (o1n : Nat) (A2 : Int) (t9i : Nat) (t9o : Nat) (t9n : Nat) (t10 : Int) (t11 : Int) (x178_0 : Int) (x178_1 : Int) (x178_2 : Int) (x178_3 : Int) (x178_4 : Int) (x178_5 : Int) (x178_6 : Int) (x178_7 : Int) (G : GH) : hodmanlaw20_CeilHolds.J60 M C o1i o1o o1n A2 t9i t9o t9n t10 t11 x178_0 x178_1 x178_2 x178_3 x178_4 x178_5 x178_6 x178_7 G = (hodmanlaw20_CeilHolds.L63 M C o1i o1o o1n A2 t9i t9o t9n t10 (IntKind.i64.wrap (t11 + 1)) x178_0 x178_1 x178_2 x178_3 x178_4 x178_5 x178_6 x178_7 G) := (M.hj _ _ _).trans (by kernel_rfl)
def hodmanlaw20_CeilHolds.f (M : Mach) (C : Call) (t0i : Nat) (t0o : Nat) (t0n : Nat) (o1i : Nat) (o1o : Nat) (o1n : Nat) (A2 : Int) (G : GH) : Option Res := (C hodmanlaw20_begun.id [] G).bind fun qr_1 => (((qr_1.1[0]?).bind V1.c?).bind Cell.asB).bind fun qb_2 => bif (!qb_2) then some ([.c (.bool false)], qr_1.2) else bif decide (((t0n : Nat) : Int) > 6) then hodmanlaw20_CeilHolds.J13 M C t0i t0o t0n o1i o1o o1n A2 true qr_1.2 else hodmanlaw20_CeilHolds.J13 M C t0i t0o t0n o1i o1o o1n A2 (decide (((o1n : Nat) : Int) > 40)) qr_1.2
theorem hodmanlaw20_CeilHolds.eq (M : Mach) (C : Call) (t0i : Nat) (t0o : Nat) (t0n : Nat) (o1i : Nat) (o1o : Nat) (o1n : Nat) (A2 : Int) (G : GH) : runF M C hodmanlaw20_CeilHolds.d [.c (.sl 1 t0i t0o t0n), .c (.sl 2 o1i o1o o1n), .c (.int .u8 A2)] G = hodmanlaw20_CeilHolds.f M C t0i t0o t0n o1i o1o o1n A2 G := by kernel_rfl

/- 24 hodman/hodmanref1.Of -/
def hodmanref1_Of.c13 : DCode := (.cond (.t 31) (.seq (.region [⟨0, some 32, .build [.int .i64 0, .int .i64 0, .int .i64 0, .int .i64 0, .int .i64 0, .int .i64 0, .int .i64 0, .int .i64 0] [], none⟩,
    ⟨1, none, .stL 2 123 (.t 32) 8, none⟩,
    ⟨2, some 3, .move (.k (.c (.int .i64 1))), none⟩]) .ret) .skip)
def hodmanref1_Of.c16 : DCode := (.region [⟨0, some 18, .move (.t 5), none⟩,
    ⟨1, some 19, .bin .add .i64 (.t 18) (.k (.c (.int .i64 1))), none⟩,
    ⟨2, some 5, .move (.t 19), none⟩])
def hodmanref1_Of.c18 : DCode := (.seq (.seq (.region [⟨0, some 16, .move (.t 5), none⟩,
    ⟨1, some 17, .cmp .lss .i64 (.t 16) (.k (.c (.int .i64 4))), none⟩]) (.cond (.t 17) .skip (.exit 0))) (.seq (.block 1 (.seq (.region [⟨0, some 20, .move (.t 4), none⟩,
    ⟨1, some 21, .move (.t 5), none⟩,
    ⟨2, some 22, .iaddr (.t 20) (.t 21) 1, none⟩,
    ⟨3, some 23, .ldG 22 (.c (.int .i64)), none⟩,
    ⟨4, some 24, .cmp .lss .i64 (.t 23) (.k (.c (.int .i64 1))), none⟩,
    ⟨5, some 25, .move (.t 24), none⟩,
    ⟨6, some 26, .move (.t 4), some (25, false)⟩,
    ⟨7, some 27, .move (.t 5), some (25, false)⟩,
    ⟨8, some 28, .iaddr (.t 26) (.t 27) 1, some (25, false)⟩,
    ⟨9, some 29, .ldG 28 (.c (.int .i64)), some (25, false)⟩,
    ⟨10, some 30, .cmp .gtr .i64 (.t 29) (.k (.c (.int .i64 65536))), some (25, false)⟩,
    ⟨11, some 31, .pick (.t 25) (.k (.c (.bool true))) (.t 30), none⟩]) (.cut [1, 2, 4, 5, 31, 122, 123] hodmanref1_Of.c13))) hodmanref1_Of.c16))
def hodmanref1_Of.c19 : DCode := (.loop [1, 2, 4, 5, 122, 123] hodmanref1_Of.c18)
def hodmanref1_Of.c27 : DCode := (.cond (.t 50) (.seq (.region [⟨0, some 51, .build [.int .i64 0, .int .i64 0, .int .i64 0, .int .i64 0, .int .i64 0, .int .i64 0, .int .i64 0, .int .i64 0] [], none⟩,
    ⟨1, none, .stL 2 123 (.t 51) 8, none⟩,
    ⟨2, some 3, .move (.k (.c (.int .i64 1))), none⟩]) .ret) .skip)
def hodmanref1_Of.c53 : DCode := (.seq (.region [⟨0, some 52, .faddr 1 4, none⟩,
    ⟨1, some 53, .ldL 52 122 (.c (.int .i64)), none⟩,
    ⟨2, some 54, .faddr 1 5, none⟩,
    ⟨3, some 55, .ldL 54 122 (.c (.int .i64)), none⟩,
    ⟨4, some 56, .build [.int .i64 0, .int .i64 0, .int .i64 0, .int .i64 0, .int .i64 0, .int .i64 0, .int .i64 0, .int .i64 0] [(5, 1, .t 53), (7, 1, .t 55)], none⟩,
    ⟨5, some 6, .boxz 124 [63, 67, 73, 77, 83, 87, 89, 96, 98, 100, 106, 107, 109, 111, 116, 117] [.int .i64 0, .int .i64 0, .int .i64 0, .int .i64 0, .int .i64 0, .int .i64 0, .int .i64 0, .int .i64 0], none⟩,
    ⟨6, none, .stL 6 124 (.t 56) 8, none⟩]) (.seq (.region [⟨0, some 58, .faddr 1 0, none⟩,
    ⟨1, some 59, .ldL 58 122 (.c (.int .i64)), none⟩,
    ⟨2, some 60, .call 44 [.t 59] [.c (.int .i64), .c (.bool)], none⟩,
    ⟨3, some 57, .move (.t 60), none⟩,
    ⟨4, some 61, .ext 57 0, none⟩,
    ⟨5, some 62, .ext 57 1, none⟩,
    ⟨6, some 63, .faddr 6 0, none⟩,
    ⟨7, none, .stL 63 124 (.t 61) 1, none⟩]) (.seq (.region [⟨0, some 65, .faddr 1 1, none⟩,
    ⟨1, some 66, .ldL 65 122 (.c (.int .i64)), none⟩,
    ⟨2, some 67, .faddr 6 0, none⟩,
    ⟨3, some 68, .ldL 67 124 (.c (.int .i64)), none⟩,
    ⟨4, some 69, .mx (.t 66) [.t 68], none⟩,
    ⟨5, some 70, .call 44 [.t 69] [.c (.int .i64), .c (.bool)], none⟩,
    ⟨6, some 64, .move (.t 70), none⟩,
    ⟨7, some 71, .ext 64 0, none⟩,
    ⟨8, some 72, .ext 64 1, none⟩,
    ⟨9, some 73, .faddr 6 1, none⟩,
    ⟨10, none, .stL 73 124 (.t 71) 1, none⟩]) (.seq (.region [⟨0, some 75, .faddr 1 3, none⟩,
    ⟨1, some 76, .ldL 75 122 (.c (.int .i64)), none⟩,
    ⟨2, some 77, .faddr 6 0, none⟩,
    ⟨3, some 78, .ldL 77 124 (.c (.int .i64)), none⟩,
    ⟨4, some 79, .mx (.t 76) [.t 78], none⟩,
    ⟨5, some 80, .call 44 [.t 79] [.c (.int .i64), .c (.bool)], none⟩,
    ⟨6, some 74, .move (.t 80), none⟩,
    ⟨7, some 81, .ext 74 0, none⟩,
    ⟨8, some 82, .ext 74 1, none⟩,
    ⟨9, some 83, .faddr 6 4, none⟩,
    ⟨10, none, .stL 83 124 (.t 81) 1, none⟩]) (.seq (.region [⟨0, some 85, .faddr 1 2, none⟩,
    ⟨1, some 86, .ldL 85 122 (.c (.int .i64)), none⟩,
    ⟨2, some 87, .faddr 6 1, none⟩,
    ⟨3, some 88, .ldL 87 124 (.c (.int .i64)), none⟩,
    ⟨4, some 89, .faddr 6 4, none⟩,
    ⟨5, some 90, .ldL 89 124 (.c (.int .i64)), none⟩,
    ⟨6, some 91, .mx (.t 88) [.t 90], none⟩,
    ⟨7, some 92, .bin .mul .i64 (.k (.c (.int .i64 2))) (.t 91), none⟩,
    ⟨8, some 93, .call 45 [.t 86, .t 92] [.c (.int .i64), .c (.bool)], none⟩,
    ⟨9, some 84, .move (.t 93), none⟩,
    ⟨10, some 94, .ext 84 0, none⟩,
    ⟨11, some 95, .ext 84 1, none⟩,
    ⟨12, some 96, .faddr 6 2, none⟩,
    ⟨13, none, .stL 96 124 (.t 94) 1, none⟩]) (.seq (.region [⟨0, some 98, .faddr 6 1, none⟩,
    ⟨1, some 99, .ldL 98 124 (.c (.int .i64)), none⟩,
    ⟨2, some 100, .faddr 6 0, none⟩,
    ⟨3, some 101, .ldL 100 124 (.c (.int .i64)), none⟩,
    ⟨4, some 102, .bin .quo .i64 (.t 99) (.t 101), none⟩,
    ⟨5, some 103, .call 46 [.t 102] [.c (.int .i64), .c (.bool)], none⟩,
    ⟨6, some 97, .move (.t 103), none⟩,
    ⟨7, some 104, .ext 97 0, none⟩,
    ⟨8, some 105, .ext 97 1, none⟩,
    ⟨9, some 106, .faddr 6 3, none⟩,
    ⟨10, none, .stL 106 124 (.t 104) 1, none⟩]) (.seq (.region [⟨0, some 107, .faddr 6 2, none⟩,
    ⟨1, some 108, .ldL 107 124 (.c (.int .i64)), none⟩,
    ⟨2, some 109, .faddr 6 3, none⟩,
    ⟨3, some 110, .ldL 109 124 (.c (.int .i64)), none⟩,
    ⟨4, some 111, .faddr 6 2, none⟩,
    ⟨5, some 112, .ldL 111 124 (.c (.int .i64)), none⟩,
    ⟨6, some 113, .bin .quo .i64 (.t 112) (.k (.c (.int .i64 2))), none⟩,
    ⟨7, some 114, .bin .mul .i64 (.t 110) (.t 113), none⟩,
    ⟨8, some 115, .bin .add .i64 (.t 108) (.t 114), none⟩,
    ⟨9, some 116, .faddr 6 6, none⟩,
    ⟨10, none, .stL 116 124 (.t 115) 1, none⟩]) (.seq (.seq (.region [⟨0, some 117, .faddr 6 6, none⟩,
    ⟨1, some 118, .ldL 117 124 (.c (.int .i64)), none⟩,
    ⟨2, some 119, .cmp .gtr .i64 (.t 118) (.k (.c (.int .i64 65536))), none⟩]) (.cond (.t 119) (.seq (.region [⟨0, some 120, .build [.int .i64 0, .int .i64 0, .int .i64 0, .int .i64 0, .int .i64 0, .int .i64 0, .int .i64 0, .int .i64 0] [], none⟩,
    ⟨1, none, .stL 2 123 (.t 120) 8, none⟩,
    ⟨2, some 3, .move (.k (.c (.int .i64 1))), none⟩]) .ret) .skip)) (.seq (.region [⟨0, some 121, .ldL 6 124 (.agg [.int .i64, .int .i64, .int .i64, .int .i64, .int .i64, .int .i64, .int .i64, .int .i64]), none⟩,
    ⟨1, none, .stL 2 123 (.t 121) 8, none⟩,
    ⟨2, some 3, .move (.k (.c (.int .i64 0))), none⟩]) .ret)))))))))
def hodmanref1_Of.c54 : DCode := (.seq (.seq (.region [⟨0, some 33, .faddr 1 4, none⟩,
    ⟨1, some 34, .ldL 33 122 (.c (.int .i64)), none⟩,
    ⟨2, some 35, .cmp .lss .i64 (.t 34) (.k (.c (.int .i64 0))), none⟩,
    ⟨3, some 36, .move (.t 35), none⟩,
    ⟨4, some 37, .faddr 1 4, some (36, false)⟩,
    ⟨5, some 38, .ldL 37 122 (.c (.int .i64)), some (36, false)⟩,
    ⟨6, some 39, .cmp .gtr .i64 (.t 38) (.k (.c (.int .i64 65536))), some (36, false)⟩,
    ⟨7, some 40, .pick (.t 36) (.k (.c (.bool true))) (.t 39), none⟩,
    ⟨8, some 41, .move (.t 40), none⟩,
    ⟨9, some 42, .faddr 1 5, some (41, false)⟩,
    ⟨10, some 43, .ldL 42 122 (.c (.int .i64)), some (41, false)⟩,
    ⟨11, some 44, .cmp .lss .i64 (.t 43) (.k (.c (.int .i64 0))), some (41, false)⟩,
    ⟨12, some 45, .pick (.t 41) (.k (.c (.bool true))) (.t 44), none⟩,
    ⟨13, some 46, .move (.t 45), none⟩,
    ⟨14, some 47, .faddr 1 5, some (46, false)⟩,
    ⟨15, some 48, .ldL 47 122 (.c (.int .i64)), some (46, false)⟩,
    ⟨16, some 49, .cmp .gtr .i64 (.t 48) (.k (.c (.int .i64 255))), some (46, false)⟩,
    ⟨17, some 50, .pick (.t 46) (.k (.c (.bool true))) (.t 49), none⟩]) (.cut [1, 2, 50, 122, 123] hodmanref1_Of.c27)) hodmanref1_Of.c53)
def hodmanref1_Of.d : DFn := { ntmps := 125, res := [.box 2 (some 8), .t 3], body := (.seq (.region [⟨0, some 1, .boxv 122 [7, 9, 11, 13, 33, 37, 42, 47, 52, 54, 58, 65, 75, 85] (.t 0) 6, none⟩,
    ⟨1, some 2, .boxz 123 [] [.int .i64 0, .int .i64 0, .int .i64 0, .int .i64 0, .int .i64 0, .int .i64 0, .int .i64 0, .int .i64 0], none⟩,
    ⟨2, some 3, .move (.k (.c (.int .i64 0))), none⟩]) (.seq (.region [⟨0, some 7, .faddr 1 0, none⟩,
    ⟨1, some 8, .ldL 7 122 (.c (.int .i64)), none⟩,
    ⟨2, some 9, .faddr 1 1, none⟩,
    ⟨3, some 10, .ldL 9 122 (.c (.int .i64)), none⟩,
    ⟨4, some 11, .faddr 1 2, none⟩,
    ⟨5, some 12, .ldL 11 122 (.c (.int .i64)), none⟩,
    ⟨6, some 13, .faddr 1 3, none⟩,
    ⟨7, some 14, .ldL 13 122 (.c (.int .i64)), none⟩,
    ⟨8, some 15, .bslice 4 1 [.int .i64 0, .int .i64 0, .int .i64 0, .int .i64 0] [(0, 1, .t 8), (1, 1, .t 10), (2, 1, .t 12), (3, 1, .t 14)], none⟩,
    ⟨9, some 4, .move (.t 15), none⟩]) (.seq (.seq (.region [⟨0, some 5, .move (.k (.c (.int .i64 0))), none⟩]) (.block 0 hodmanref1_Of.c19)) hodmanref1_Of.c54))) }
def hodmanref1_Of.k54 (M : Mach) (C : Call) : Kont := execC M.j C (M.ag C) hodmanref1_Of.c54 ({ exits := [], ret := retK hodmanref1_Of.d } : Env) (retK hodmanref1_Of.d)
def hodmanref1_Of.e20 (M : Mach) (C : Call) : Env := { exits := (0, (hodmanref1_Of.k54 M C)) :: (({ exits := [], ret := retK hodmanref1_Of.d } : Env)).exits, ret := (({ exits := [], ret := retK hodmanref1_Of.d } : Env)).ret }
def hodmanref1_Of.L19 (M : Mach) (C : Call) (l4i : Nat) (l4o : Nat) (l4n : Nat) (i5 : Int) (r122_0 : Int) (r122_1 : Int) (r122_2 : Int) (r122_3 : Int) (r122_4 : Int) (r122_5 : Int) (x123_0 : Int) (x123_1 : Int) (x123_2 : Int) (x123_3 : Int) (x123_4 : Int) (x123_5 : Int) (x123_6 : Int) (x123_7 : Int) (G : GH) : Option Res := M.ag C [1, 2, 4, 5, 122, 123] hodmanref1_Of.c18 (hodmanref1_Of.e20 M C) (hodmanref1_Of.k54 M C) [.und, .ref 122 0, .ref 123 0, .und, .v (.c (.sl 1 l4i l4o l4n)), .v (.c (.int .i64 i5)), .und, .und, .und, .und, .und, .und, .und, .und, .und, .und, .und, .und, .und, .und, .und, .und, .und, .und, .und, .und, .und, .und, .und, .und, .und, .und, .und, .und, .und, .und, .und, .und, .und, .und, .und, .und, .und, .und, .und, .und, .und, .und, .und, .und, .und, .und, .und, .und, .und, .und, .und, .und, .und, .und, .und, .und, .und, .und, .und, .und, .und, .und, .und, .und, .und, .und, .und, .und, .und, .und, .und, .und, .und, .und, .und, .und, .und, .und, .und, .und, .und, .und, .und, .und, .und, .und, .und, .und, .und, .und, .und, .und, .und, .und, .und, .und, .und, .und, .und, .und, .und, .und, .und, .und, .und, .und, .und, .und, .und, .und, .und, .und, .und, .und, .und, .und, .box [.int .i64 r122_0, .int .i64 r122_1, .int .i64 r122_2, .int .i64 r122_3, .int .i64 r122_4, .int .i64 r122_5], .box [.int .i64 x123_0, .int .i64 x123_1, .int .i64 x123_2, .int .i64 x123_3, .int .i64 x123_4, .int .i64 x123_5, .int .i64 x123_6, .int .i64 x123_7], .und] G
def hodmanref1_Of.k19 (M : Mach) (C : Call) : Kont := fun tm G => M.ag C [1, 2, 4, 5, 122, 123] hodmanref1_Of.c18 (hodmanref1_Of.e20 M C) (hodmanref1_Of.k54 M C) (restr [1, 2, 4, 5, 122, 123] 0 tm) G
def hodmanref1_Of.k16 (M : Mach) (C : Call) : Kont := execC M.j C (M.ag C) hodmanref1_Of.c16 (hodmanref1_Of.e20 M C) (hodmanref1_Of.k19 M C)
def hodmanref1_Of.e15 (M : Mach) (C : Call) : Env := { exits := (1, (hodmanref1_Of.k16 M C)) :: ((hodmanref1_Of.e20 M C)).exits, ret := ((hodmanref1_Of.e20 M C)).ret }
def hodmanref1_Of.J13 (M : Mach) (C : Call) (l4i : Nat) (l4o : Nat) (l4n : Nat) (i5 : Int) (t31 : Bool) (r122_0 : Int) (r122_1 : Int) (r122_2 : Int) (r122_3 : Int) (r122_4 : Int) (r122_5 : Int) (x123_0 : Int) (x123_1 : Int) (x123_2 : Int) (x123_3 : Int) (x123_4 : Int) (x123_5 : Int) (x123_6 : Int) (x123_7 : Int) (G : GH) : Option Res := M.j (execC M.j C (M.ag C) hodmanref1_Of.c13 (hodmanref1_Of.e15 M C) (hodmanref1_Of.k16 M C)) [.und, .ref 122 0, .ref 123 0, .und, .v (.c (.sl 1 l4i l4o l4n)), .v (.c (.int .i64 i5)), .und, .und, .und, .und, .und, .und, .und, .und, .und, .und, .und, .und, .und, .und, .und, .und, .und, .und, .und, .und, .und, .und, .und, .und, .und, .v (.c (.bool t31)), .und, .und, .und, .und, .und, .und, .und, .und, .und, .und, .und, .und, .und, .und, .und, .und, .und, .und, .und, .und, .und, .und, .und, .und, .und, .und, .und, .und, .und, .und, .und, .und, .und, .und, .und, .und, .und, .und, .und, .und, .und, .und, .und, .und, .und, .und, .und, .und, .und, .und, .und, .und, .und, .und, .und, .und, .und, .und, .und, .und, .und, .und, .und, .und, .und, .und, .und, .und, .und, .und, .und, .und, .und, .und, .und, .und, .und, .und, .und, .und, .und, .und, .und, .und, .und, .und, .und, .und, .und, .und, .box [.int .i64 r122_0, .int .i64 r122_1, .int .i64 r122_2, .int .i64 r122_3, .int .i64 r122_4, .int .i64 r122_5], .box [.int .i64 x123_0, .int .i64 x123_1, .int .i64 x123_2, .int .i64 x123_3, .int .i64 x123_4, .int .i64 x123_5, .int .i64 x123_6, .int .i64 x123_7], .und] G
def hodmanref1_Of.k53 (M : Mach) (C : Call) : Kont := execC M.j C (M.ag C) hodmanref1_Of.c53 ({ exits := [], ret := retK hodmanref1_Of.d } : Env) (retK hodmanref1_Of.d)
def hodmanref1_Of.J27 (M : Mach) (C : Call) (t50 : Bool) (r122_0 : Int) (r122_1 : Int) (r122_2 : Int) (r122_3 : Int) (r122_4 : Int) (r122_5 : Int) (x123_0 : Int) (x123_1 : Int) (x123_2 : Int) (x123_3 : Int) (x123_4 : Int) (x123_5 : Int) (x123_6 : Int) (x123_7 : Int) (G : GH) : Option Res := M.j (execC M.j C (M.ag C) hodmanref1_Of.c27 ({ exits := [], ret := retK hodmanref1_Of.d } : Env) (hodmanref1_Of.k53 M C)) [.und, .ref 122 0, .ref 123 0, .und, .und, .und, .und, .und, .und, .und, .und, .und, .und, .und, .und, .und, .und, .und, .und, .und, .und, .und, .und, .und, .und, .und, .und, .und, .und, .und, .und, .und, .und, .und, .und, .und, .und, .und, .und, .und, .und, .und, .und, .und, .und, .und, .und, .und, .und, .und, .v (.c (.bool t50)), .und, .und, .und, .und, .und, .und, .und, .und, .und, .und, .und, .und, .und, .und, .und, .und, .und, .und, .und, .und, .und, .und, .und, .und, .und, .und, .und, .und, .und, .und, .und, .und, .und, .und, .und, .und, .und, .und, .und, .und, .und, .und, .und, .und, .und, .und, .und, .und, .und, .und, .und, .und, .und, .und, .und, .und, .und, .und, .und, .und, .und, .und, .und, .und, .und, .und, .und, .und, .und, .und, .und, .box [.int .i64 r122_0, .int .i64 r122_1, .int .i64 r122_2, .int .i64 r122_3, .int .i64 r122_4, .int .i64 r122_5], .box [.int .i64 x123_0, .int .i64 x123_1, .int .i64 x123_2, .int .i64 x123_3, .int .i64 x123_4, .int .i64 x123_5, .int .i64 x123_6, .int .i64 x123_7], .und] G
theorem hodmanref1_Of.L19_eq (M : Mach) (C : Call) (l4i : Nat) (l4o : Nat) (l4n : Nat) (i5 : Int) (r122_0 : Int) (r122_1 : Int) (r122_2 : Int) (r122_3 : Int) (r122_4 : Int) (r122_5 : Int) (x123_0 : Int) (x123_1 : Int) (x123_2 : Int) (x123_3 : Int) (x123_4 : Int) (x123_5 : Int) (x123_6 : Int) (x123_7 : Int) (G : GH) : hodmanref1_Of.L19 M C l4i l4o l4n i5 r122_0 r122_1 r122_2 r122_3 r122_4 r122_5 x123_0 x123_1 x123_2 x123_3 x123_4 x123_5 x123_6 x123_7 G = (bif decide (i5 < 4) then guardK (decide (0 ≤ i5 ∧ i5 < ((l4n : Nat) : Int))) (((G.ld l4i (l4o + Int.toNat i5 * 1)).bind (Cell.asI .i64)).bind fun qx_2 => bif decide (qx_2 < 1) then hodmanref1_Of.J13 M C l4i l4o l4n i5 true r122_0 r122_1 r122_2 r122_3 r122_4 r122_5 x123_0 x123_1 x123_2 x123_3 x123_4 x123_5 x123_6 x123_7 G else guardK (decide (0 ≤ i5 ∧ i5 < ((l4n : Nat) : Int))) (((G.ld l4i (l4o + Int.toNat i5 * 1)).bind (Cell.asI .i64)).bind fun qx_3 => hodmanref1_Of.J13 M C l4i l4o l4n i5 (decide (qx_3 > 65536)) r122_0 r122_1 r122_2 r122_3 r122_4 r122_5 x123_0 x123_1 x123_2 x123_3 x123_4 x123_5 x123_6 x123_7 G)) else bif decide (r122_4 < 0) then hodmanref1_Of.J27 M C true r122_0 r122_1 r122_2 r122_3 r122_4 r122_5 x123_0 x123_1 x123_2 x123_3 x123_4 x123_5 x123_6 x123_7 G else bif decide (r122_4 > 65536) then hodmanref1_Of.J27 M C true r122_0 r122_1 r122_2 r122_3 r122_4 r122_5 x123_0 x123_1 x123_2 x123_3 x123_4 x123_5 x123_6 x123_7 G else bif decide (r122_5 < 0) then hodmanref1_Of.J27 M C true r122_0 r122_1 r122_2 r122_3 r122_4 r122_5 x123_0 x123_1 x123_2 x123_3 x123_4 x123_5 x123_6 x123_7 G else hodmanref1_Of.J27 M C (decide (r122_5 > 255)) r122_0 r122_1 r122_2 r122_3 r122_4 r122_5 x123_0 x123_1 x123_2 x123_3 x123_4 x123_5 x123_6 x123_7 G) := (M.hs _ _ _ _ _ _ _).trans (by kernel_rfl)
theorem hodmanref1_Of.J13_eq (M : Mach) (C : Call) (l4i : Nat) (l4o : Nat) (l4n : Nat) (i5 : Int) (t31 : Bool) (r122_0 : Int) (r122_1 : Int) (r122_2 : Int) (r122_3 : Int) (r122_4 : Int) (r122_5 : Int) (x123_0 : Int) (x123_1 : Int) (x123_2 : Int) (x123_3 : Int) (x123_4 : Int) (x123_5 : Int) (x123_6 : Int) (x123_7 : Int) (G : GH) : hodmanref1_Of.J13 M C l4i l4o l4n i5 t31 r122_0 r122_1 r122_2 r122_3 r122_4 r122_5 x123_0 x123_1 x123_2 x123_3 x123_4 x123_5 x123_6 x123_7 G = (bif t31 then some ([.agg [.int .i64 0, .int .i64 0, .int .i64 0, .int .i64 0, .int .i64 0, .int .i64 0, .int .i64 0, .int .i64 0], .c (.int .i64 1)], G) else hodmanref1_Of.L19 M C l4i l4o l4n (IntKind.i64.wrap (i5 + 1)) r122_0 r122_1 r122_2 r122_3 r122_4 r122_5 x123_0 x123_1 x123_2 x123_3 x123_4 x123_5 x123_6 x123_7 G) := (M.hj _ _ _).trans (by kernel_rfl)
theorem hodmanref1_Of.J27_eq (M : Mach) (C : Call) (t50 : Bool) (r122_0 : Int) (r122_1 : Int) (r122_2 : Int) (r122_3 : Int) (r122_4 : Int) (r122_5 : Int) (x123_0 : Int) (x123_1 : Int) (x123_2 : Int) (x123_3 : Int) (x123_4 : Int) (x123_5 : Int) (x123_6 : Int) (x123_7 : Int) (G : GH) : hodmanref1_Of.J27 M C t50 r122_0 r122_1 r122_2 r122_3 r122_4 r122_5 x123_0 x123_1 x123_2 x123_3 x123_4 x123_5 x123_6 x123_7 G = (bif t50 then some ([.agg [.int .i64 0, .int .i64 0, .int .i64 0, .int .i64 0, .int .i64 0, .int .i64 0, .int .i64 0, .int .i64 0], .c (.int .i64 1)], G) else (C hodmanref1_Up.id [.c (.int .i64 r122_0)] G).bind fun qr_4 => (((qr_4.1[0]?).bind V1.c?).bind (Cell.asI .i64)).bind fun qx_5 => (((qr_4.1[1]?).bind V1.c?).bind Cell.asB).bind fun qb_6 => (C hodmanref1_Up.id [.c (.int .i64 (mx2 r122_1 qx_5))] qr_4.2).bind fun qr_7 => (((qr_7.1[0]?).bind V1.c?).bind (Cell.asI .i64)).bind fun qx_8 => (((qr_7.1[1]?).bind V1.c?).bind Cell.asB).bind fun qb_9 => (C hodmanref1_Up.id [.c (.int .i64 (mx2 r122_3 qx_5))] qr_7.2).bind fun qr_10 => (((qr_10.1[0]?).bind V1.c?).bind (Cell.asI .i64)).bind fun qx_11 => (((qr_10.1[1]?).bind V1.c?).bind Cell.asB).bind fun qb_12 => (C hodmanref1_Round.id [.c (.int .i64 r122_2), .c (.int .i64 (IntKind.i64.wrap (2 * (mx2 qx_8 qx_11))))] qr_10.2).bind fun qr_13 => (((qr_13.1[0]?).bind V1.c?).bind (Cell.asI .i64)).bind fun qx_14 => (((qr_13.1[1]?).bind V1.c?).bind Cell.asB).bind fun qb_15 => (binD .quo .i64 qx_8 qx_5).bind fun qx_16 => (C hodmanref1_Log.id [.c (.int .i64 qx_16)] qr_13.2).bind fun qr_17 => (((qr_17.1[0]?).bind V1.c?).bind (Cell.asI .i64)).bind fun qx_18 => (((qr_17.1[1]?).bind V1.c?).bind Cell.asB).bind fun qb_19 => bif decide (IntKind.i64.wrap (qx_14 + (IntKind.i64.wrap (qx_18 * (IntKind.i64.wrap (Int.tdiv qx_14 2))))) > 65536) then some ([.agg [.int .i64 0, .int .i64 0, .int .i64 0, .int .i64 0, .int .i64 0, .int .i64 0, .int .i64 0, .int .i64 0], .c (.int .i64 1)], qr_17.2) else some ([.agg [.int .i64 qx_5, .int .i64 qx_8, .int .i64 qx_14, .int .i64 qx_18, .int .i64 qx_11, .int .i64 r122_4, .int .i64 (IntKind.i64.wrap (qx_14 + (IntKind.i64.wrap (qx_18 * (IntKind.i64.wrap (Int.tdiv qx_14 2)))))), .int .i64 r122_5], .c (.int .i64 0)], qr_17.2)) := (M.hj _ _ _).trans (by kernel_rfl)
def hodmanref1_Of.f (M : Mach) (C : Call) (r0_0 : Int) (r0_1 : Int) (r0_2 : Int) (r0_3 : Int) (r0_4 : Int) (r0_5 : Int) (G : GH) : Option Res := let qG_1 := G.alloc (.row [.int .i64 r0_0, .int .i64 r0_1, .int .i64 r0_2, .int .i64 r0_3] false); hodmanref1_Of.L19 M C G.next 0 4 0 r0_0 r0_1 r0_2 r0_3 r0_4 r0_5 0 0 0 0 0 0 0 0 qG_1
theorem hodmanref1_Of.eq (M : Mach) (C : Call) (r0_0 : Int) (r0_1 : Int) (r0_2 : Int) (r0_3 : Int) (r0_4 : Int) (r0_5 : Int) (G : GH) : runF M C hodmanref1_Of.d [.agg [.int .i64 r0_0, .int .i64 r0_1, .int .i64 r0_2, .int .i64 r0_3, .int .i64 r0_4, .int .i64 r0_5]] G = hodmanref1_Of.f M C r0_0 r0_1 r0_2 r0_3 r0_4 r0_5 G := by kernel_rfl

/- 27 hodman/hodmanref17.Lowest -/
def hodmanref17_Lowest.c12 : DCode := (.cond (.t 26) .skip (.exit 2))
def hodmanref17_Lowest.c17 : DCode := (.seq (.block 3 (.region [⟨0, some 29, .move (.t 8), none⟩,
    ⟨1, some 30, .move (.t 2), none⟩,
    ⟨2, some 31, .build [.int .i64 0, .int .i64 0] [(0, 1, .t 29), (1, 1, .t 30)], none⟩,
    ⟨3, some 32, .move (.t 1), none⟩,
    ⟨4, some 33, .move (.t 10), none⟩,
    ⟨5, some 34, .iaddr (.t 32) (.t 33) 3, none⟩,
    ⟨6, some 35, .faddr 34 0, none⟩,
    ⟨7, some 36, .ldG 35 (.c (.int .i64)), none⟩,
    ⟨8, some 37, .move (.t 1), none⟩,
    ⟨9, some 38, .move (.t 10), none⟩,
    ⟨10, some 39, .iaddr (.t 37) (.t 38) 3, none⟩,
    ⟨11, some 40, .faddr 39 1, none⟩,
    ⟨12, some 41, .ldG 40 (.c (.int .i64)), none⟩,
    ⟨13, some 42, .build [.int .i64 0, .int .i64 0] [(0, 1, .t 36), (1, 1, .t 41)], none⟩,
    ⟨14, some 43, .call 47 [.t 31, .t 42] [.c (.bool)], none⟩,
    ⟨15, some 44, .not (.t 43), none⟩,
    ⟨16, some 9, .move (.t 44), none⟩])) (.region [⟨0, some 27, .move (.t 10), none⟩,
    ⟨1, some 28, .bin .add .i64 (.t 27) (.k (.c (.int .i64 1))), none⟩,
    ⟨2, some 10, .move (.t 28), none⟩]))
def hodmanref17_Lowest.c18 : DCode := (.seq (.seq (.region [⟨0, some 20, .move (.t 10), none⟩,
    ⟨1, some 21, .move (.t 1), none⟩,
    ⟨2, some 22, .len (.t 21), none⟩,
    ⟨3, some 23, .cmp .lss .i64 (.t 20) (.t 22), none⟩,
    ⟨4, some 24, .move (.t 23), none⟩,
    ⟨5, some 25, .move (.t 9), some (24, true)⟩,
    ⟨6, some 26, .pick (.t 24) (.t 25) (.k (.c (.bool false))), none⟩]) (.cut [1, 2, 3, 8, 9, 10, 26, 47] hodmanref17_Lowest.c12)) hodmanref17_Lowest.c17)
def hodmanref17_Lowest.c19 : DCode := (.loop [1, 2, 3, 8, 9, 10, 47] hodmanref17_Lowest.c18)
def hodmanref17_Lowest.c28 : DCode := (.seq (.region [⟨0, some 45, .move (.t 9), none⟩]) (.cond (.t 45) (.seq (.region [⟨0, some 46, .move (.t 8), none⟩,
    ⟨1, some 6, .move (.t 46), none⟩,
    ⟨2, some 7, .move (.k (.c (.bool true))), none⟩]) .ret) .skip))
def hodmanref17_Lowest.c32 : DCode := (.region [⟨0, some 17, .move (.t 8), none⟩,
    ⟨1, some 18, .move (.t 2), none⟩,
    ⟨2, some 19, .bin .add .i64 (.t 17) (.t 18), none⟩,
    ⟨3, some 8, .move (.t 19), none⟩])
def hodmanref17_Lowest.c34 : DCode := (.seq (.seq (.region [⟨0, some 11, .move (.t 8), none⟩,
    ⟨1, some 12, .move (.t 2), none⟩,
    ⟨2, some 13, .bin .add .i64 (.t 11) (.t 12), none⟩,
    ⟨3, some 14, .faddr 3 6, none⟩,
    ⟨4, some 15, .ldL 14 47 (.c (.int .i64)), none⟩,
    ⟨5, some 16, .cmp .leq .i64 (.t 13) (.t 15), none⟩]) (.cond (.t 16) .skip (.exit 0))) (.seq (.block 1 (.seq (.region [⟨0, some 9, .move (.k (.c (.bool true))), none⟩]) (.seq (.seq (.region [⟨0, some 10, .move (.k (.c (.int .i64 0))), none⟩]) (.block 2 hodmanref17_Lowest.c19)) hodmanref17_Lowest.c28))) hodmanref17_Lowest.c32))
def hodmanref17_Lowest.c35 : DCode := (.loop [1, 2, 3, 8, 47] hodmanref17_Lowest.c34)
def hodmanref17_Lowest.c40 : DCode := (.seq (.region [⟨0, some 6, .move (.k (.c (.int .i64 0))), none⟩,
    ⟨1, some 7, .move (.k (.c (.bool false))), none⟩]) .ret)
def hodmanref17_Lowest.d : DFn := { ntmps := 48, res := [.t 6, .t 7], body := (.seq (.region [⟨0, some 3, .boxv 47 [14] (.t 0) 8, none⟩,
    ⟨1, some 6, .move (.k (.c (.int .i64 0))), none⟩,
    ⟨2, some 7, .move (.k (.c (.bool false))), none⟩]) (.seq (.seq (.region [⟨0, some 8, .move (.k (.c (.int .i64 0))), none⟩]) (.block 0 hodmanref17_Lowest.c35)) hodmanref17_Lowest.c40)) }
def hodmanref17_Lowest.k40 (M : Mach) (C : Call) : Kont := execC M.j C (M.ag C) hodmanref17_Lowest.c40 ({ exits := [], ret := retK hodmanref17_Lowest.d } : Env) (retK hodmanref17_Lowest.d)
def hodmanref17_Lowest.e36 (M : Mach) (C : Call) : Env := { exits := (0, (hodmanref17_Lowest.k40 M C)) :: (({ exits := [], ret := retK hodmanref17_Lowest.d } : Env)).exits, ret := (({ exits := [], ret := retK hodmanref17_Lowest.d } : Env)).ret }
def hodmanref17_Lowest.L35 (M : Mach) (C : Call) (l1i : Nat) (l1o : Nat) (l1n : Nat) (charge2 : Int) (at8 : Int) (c47_0 : Int) (c47_1 : Int) (c47_2 : Int) (c47_3 : Int) (c47_4 : Int) (c47_5 : Int) (c47_6 : Int) (c47_7 : Int) (G : GH) : Option Res := M.ag C [1, 2, 3, 8, 47] hodmanref17_Lowest.c34 (hodmanref17_Lowest.e36 M C) (hodmanref17_Lowest.k40 M C) [.und, .v (.c (.sl 3 l1i l1o l1n)), .v (.c (.int .i64 charge2)), .ref 47 0, .und, .und, .und, .und, .v (.c (.int .i64 at8)), .und, .und, .und, .und, .und, .und, .und, .und, .und, .und, .und, .und, .und, .und, .und, .und, .und, .und, .und, .und, .und, .und, .und, .und, .und, .und, .und, .und, .und, .und, .und, .und, .und, .und, .und, .und, .und, .und, .box [.int .i64 c47_0, .int .i64 c47_1, .int .i64 c47_2, .int .i64 c47_3, .int .i64 c47_4, .int .i64 c47_5, .int .i64 c47_6, .int .i64 c47_7]] G
def hodmanref17_Lowest.k35 (M : Mach) (C : Call) : Kont := fun tm G => M.ag C [1, 2, 3, 8, 47] hodmanref17_Lowest.c34 (hodmanref17_Lowest.e36 M C) (hodmanref17_Lowest.k40 M C) (restr [1, 2, 3, 8, 47] 0 tm) G
def hodmanref17_Lowest.k32 (M : Mach) (C : Call) : Kont := execC M.j C (M.ag C) hodmanref17_Lowest.c32 (hodmanref17_Lowest.e36 M C) (hodmanref17_Lowest.k35 M C)
def hodmanref17_Lowest.e31 (M : Mach) (C : Call) : Env := { exits := (1, (hodmanref17_Lowest.k32 M C)) :: ((hodmanref17_Lowest.e36 M C)).exits, ret := ((hodmanref17_Lowest.e36 M C)).ret }
def hodmanref17_Lowest.k28 (M : Mach) (C : Call) : Kont := execC M.j C (M.ag C) hodmanref17_Lowest.c28 (hodmanref17_Lowest.e31 M C) (hodmanref17_Lowest.k32 M C)
def hodmanref17_Lowest.e20 (M : Mach) (C : Call) : Env := { exits := (2, (hodmanref17_Lowest.k28 M C)) :: ((hodmanref17_Lowest.e31 M C)).exits, ret := ((hodmanref17_Lowest.e31 M C)).ret }
def hodmanref17_Lowest.L19 (M : Mach) (C : Call) (l1i : Nat) (l1o : Nat) (l1n : Nat) (charge2 : Int) (at8 : Int) (free9 : Bool) (i10 : Int) (c47_0 : Int) (c47_1 : Int) (c47_2 : Int) (c47_3 : Int) (c47_4 : Int) (c47_5 : Int) (c47_6 : Int) (c47_7 : Int) (G : GH) : Option Res := M.ag C [1, 2, 3, 8, 9, 10, 47] hodmanref17_Lowest.c18 (hodmanref17_Lowest.e20 M C) (hodmanref17_Lowest.k28 M C) [.und, .v (.c (.sl 3 l1i l1o l1n)), .v (.c (.int .i64 charge2)), .ref 47 0, .und, .und, .und, .und, .v (.c (.int .i64 at8)), .v (.c (.bool free9)), .v (.c (.int .i64 i10)), .und, .und, .und, .und, .und, .und, .und, .und, .und, .und, .und, .und, .und, .und, .und, .und, .und, .und, .und, .und, .und, .und, .und, .und, .und, .und, .und, .und, .und, .und, .und, .und, .und, .und, .und, .und, .box [.int .i64 c47_0, .int .i64 c47_1, .int .i64 c47_2, .int .i64 c47_3, .int .i64 c47_4, .int .i64 c47_5, .int .i64 c47_6, .int .i64 c47_7]] G
def hodmanref17_Lowest.k19 (M : Mach) (C : Call) : Kont := fun tm G => M.ag C [1, 2, 3, 8, 9, 10, 47] hodmanref17_Lowest.c18 (hodmanref17_Lowest.e20 M C) (hodmanref17_Lowest.k28 M C) (restr [1, 2, 3, 8, 9, 10, 47] 0 tm) G
def hodmanref17_Lowest.k17 (M : Mach) (C : Call) : Kont := execC M.j C (M.ag C) hodmanref17_Lowest.c17 (hodmanref17_Lowest.e20 M C) (hodmanref17_Lowest.k19 M C)
def hodmanref17_Lowest.J12 (M : Mach) (C : Call) (l1i : Nat) (l1o : Nat) (l1n : Nat) (charge2 : Int) (at8 : Int) (free9 : Bool) (i10 : Int) (t26 : Bool) (c47_0 : Int) (c47_1 : Int) (c47_2 : Int) (c47_3 : Int) (c47_4 : Int) (c47_5 : Int) (c47_6 : Int) (c47_7 : Int) (G : GH) : Option Res := M.j (execC M.j C (M.ag C) hodmanref17_Lowest.c12 (hodmanref17_Lowest.e20 M C) (hodmanref17_Lowest.k17 M C)) [.und, .v (.c (.sl 3 l1i l1o l1n)), .v (.c (.int .i64 charge2)), .ref 47 0, .und, .und, .und, .und, .v (.c (.int .i64 at8)), .v (.c (.bool free9)), .v (.c (.int .i64 i10)), .und, .und, .und, .und, .und, .und, .und, .und, .und, .und, .und, .und, .und, .und, .und, .v (.c (.bool t26)), .und, .und, .und, .und, .und, .und, .und, .und, .und, .und, .und, .und, .und, .und, .und, .und, .und, .und, .und, .und, .box [.int .i64 c47_0, .int .i64 c47_1, .int .i64 c47_2, .int .i64 c47_3, .int .i64 c47_4, .int .i64 c47_5, .int .i64 c47_6, .int .i64 c47_7]] G
theorem hodmanref17_Lowest.L35_eq (M : Mach) (C : Call) (l1i : Nat) (l1o : Nat) (l1n : Nat) (charge2 : Int) (at8 : Int) (c47_0 : Int) (c47_1 : Int) (c47_2 : Int) (c47_3 : Int) (c47_4 : Int) (c47_5 : Int) (c47_6 : Int) (c47_7 : Int) (G : GH) : hodmanref17_Lowest.L35 M C l1i l1o l1n charge2 at8 c47_0 c47_1 c47_2 c47_3 c47_4 c47_5 c47_6 c47_7 G = (bif decide (IntKind.i64.wrap (at8 + charge2) ≤ c47_6) then hodmanref17_Lowest.L19 M C l1i l1o l1n charge2 at8 true 0 c47_0 c47_1 c47_2 c47_3 c47_4 c47_5 c47_6 c47_7 G else some ([.c (.int .i64 0), .c (.bool false)], G)) := (M.hs _ _ _ _ _ _ _).trans (by kernel_rfl)
theorem hodmanref17_Lowest.L19_eq (M : Mach) (C : Call) (l1i : Nat) (l1o : Nat) (l1n : Nat) (charge2 : Int) (at8 : Int) (free9 : Bool) (i10 : Int) (c47_0 : Int) (c47_1 : Int) (c47_2 : Int) (c47_3 : Int) (c47_4 : Int) (c47_5 : Int) (c47_6 : Int) (c47_7 : Int) (G : GH) : hodmanref17_Lowest.L19 M C l1i l1o l1n charge2 at8 free9 i10 c47_0 c47_1 c47_2 c47_3 c47_4 c47_5 c47_6 c47_7 G = (bif decide (i10 < ((l1n : Nat) : Int)) then hodmanref17_Lowest.J12 M C l1i l1o l1n charge2 at8 free9 i10 free9 c47_0 c47_1 c47_2 c47_3 c47_4 c47_5 c47_6 c47_7 G else hodmanref17_Lowest.J12 M C l1i l1o l1n charge2 at8 free9 i10 false c47_0 c47_1 c47_2 c47_3 c47_4 c47_5 c47_6 c47_7 G) := (M.hs _ _ _ _ _ _ _).trans (by kernel_rfl)
theorem hodmanref17_Lowest.J12_eq (M : Mach) (C : Call) (l1i : Nat) (l1o : Nat) (l1n : Nat) (charge2 : Int) (at8 : Int) (free9 : Bool) (i10 : Int) (t26 : Bool) (c47_0 : Int) (c47_1 : Int) (c47_2 : Int) (c47_3 : Int) (c47_4 : Int) (c47_5 : Int) (c47_6 : Int) (c47_7 : Int) (G : GH) : hodmanref17_Lowest.J12 M C l1i l1o l1n charge2 at8 free9 i10 t26 c47_0 c47_1 c47_2 c47_3 c47_4 c47_5 c47_6 c47_7 G = (bif t26 then guardK (decide (0 ≤ i10 ∧ i10 < ((l1n : Nat) : Int))) (((G.ld l1i ((l1o + Int.toNat i10 * 3) + 0)).bind (Cell.asI .i64)).bind fun qx_1 => guardK (decide (0 ≤ i10 ∧ i10 < ((l1n : Nat) : Int))) (((G.ld l1i ((l1o + Int.toNat i10 * 3) + 1)).bind (Cell.asI .i64)).bind fun qx_2 => (C hodmanref8_Over.id [.agg [.int .i64 at8, .int .i64 charge2], .agg [.int .i64 qx_1, .int .i64 qx_2]] G).bind fun qr_3 => (((qr_3.1[0]?).bind V1.c?).bind Cell.asB).bind fun qb_4 => hodmanref17_Lowest.L19 M C l1i l1o l1n charge2 at8 (!qb_4) (IntKind.i64.wrap (i10 + 1)) c47_0 c47_1 c47_2 c47_3 c47_4 c47_5 c47_6 c47_7 qr_3.2)) else bif free9 then some ([.c (.int .i64 at8), .c (.bool true)], G) else hodmanref17_Lowest.L35 M C l1i l1o l1n charge2 (IntKind.i64.wrap (at8 + charge2)) c47_0 c47_1 c47_2 c47_3 c47_4 c47_5 c47_6 c47_7 G) := (M.hj _ _ _).trans (by kernel_rfl)
def hodmanref17_Lowest.f (M : Mach) (C : Call) (c0_0 : Int) (c0_1 : Int) (c0_2 : Int) (c0_3 : Int) (c0_4 : Int) (c0_5 : Int) (c0_6 : Int) (c0_7 : Int) (l1i : Nat) (l1o : Nat) (l1n : Nat) (charge2 : Int) (G : GH) : Option Res := hodmanref17_Lowest.L35 M C l1i l1o l1n charge2 0 c0_0 c0_1 c0_2 c0_3 c0_4 c0_5 c0_6 c0_7 G
theorem hodmanref17_Lowest.eq (M : Mach) (C : Call) (c0_0 : Int) (c0_1 : Int) (c0_2 : Int) (c0_3 : Int) (c0_4 : Int) (c0_5 : Int) (c0_6 : Int) (c0_7 : Int) (l1i : Nat) (l1o : Nat) (l1n : Nat) (charge2 : Int) (G : GH) : runF M C hodmanref17_Lowest.d [.agg [.int .i64 c0_0, .int .i64 c0_1, .int .i64 c0_2, .int .i64 c0_3, .int .i64 c0_4, .int .i64 c0_5, .int .i64 c0_6, .int .i64 c0_7], .c (.sl 3 l1i l1o l1n), .c (.int .i64 charge2)] G = hodmanref17_Lowest.f M C c0_0 c0_1 c0_2 c0_3 c0_4 c0_5 c0_6 c0_7 l1i l1o l1n charge2 G := by kernel_rfl

/- 29 hodman/ceil.Least -/
def ceil_Least.c6 : DCode := (.cond (.t 36) (.seq (.region [⟨0, some 6, .move (.k (.c (.int .i64 0))), none⟩]) .ret) .skip)
def ceil_Least.c26 : DCode := (.seq (.seq (.region [⟨0, some 44, .move (.t 8), none⟩,
    ⟨1, some 45, .move (.t 2), none⟩,
    ⟨2, some 46, .move (.t 7), none⟩,
    ⟨3, some 47, .bin .sub .i64 (.t 45) (.t 46), none⟩,
    ⟨4, some 48, .cmp .leq .i64 (.t 44) (.t 47), none⟩]) (.cond (.t 48) .skip (.exit 0))) (.seq (.block 1 (.region [⟨0, some 52, .move (.t 6), none⟩,
    ⟨1, some 53, .faddr 3 0, none⟩,
    ⟨2, some 54, .ldL 53 63 (.c (.int .i64)), none⟩,
    ⟨3, some 55, .ldL 3 63 (.agg [.int .i64, .int .i64, .int .i64, .int .i64, .int .i64, .int .i64, .int .i64, .int .i64]), none⟩,
    ⟨4, some 56, .move (.t 1), none⟩,
    ⟨5, some 57, .move (.t 8), none⟩,
    ⟨6, some 58, .call 48 [.t 55, .t 56, .t 57] [.c (.int .i64)], none⟩,
    ⟨7, some 59, .conv .u64 (.t 58), none⟩,
    ⟨8, some 60, .bin .shl .i64 (.t 54) (.t 59), none⟩,
    ⟨9, some 61, .bin .add .i64 (.t 52) (.t 60), none⟩,
    ⟨10, some 6, .move (.t 61), none⟩])) (.region [⟨0, some 49, .move (.t 8), none⟩,
    ⟨1, some 50, .move (.t 7), none⟩,
    ⟨2, some 51, .bin .add .i64 (.t 49) (.t 50), none⟩,
    ⟨3, some 8, .move (.t 51), none⟩])))
def ceil_Least.c32 : DCode := (.seq (.region [⟨0, some 62, .move (.t 6), none⟩,
    ⟨1, some 6, .move (.t 62), none⟩]) .ret)
def ceil_Least.c35 : DCode := (.seq (.region [⟨0, some 37, .faddr 3 0, none⟩,
    ⟨1, some 38, .ldL 37 63 (.c (.int .i64)), none⟩,
    ⟨2, some 39, .move (.t 1), none⟩,
    ⟨3, some 40, .conv .u64 (.t 39), none⟩,
    ⟨4, some 41, .bin .shl .i64 (.t 38) (.t 40), none⟩,
    ⟨5, some 7, .move (.t 41), none⟩]) (.seq (.seq (.region [⟨0, some 42, .move (.t 7), none⟩,
    ⟨1, some 43, .cmp .lss .i64 (.t 42) (.k (.c (.int .i64 1))), none⟩]) (.cond (.t 43) (.seq (.region [⟨0, some 6, .move (.k (.c (.int .i64 0))), none⟩]) .ret) .skip)) (.seq (.seq (.region [⟨0, some 8, .move (.k (.c (.int .i64 0))), none⟩]) (.block 0 (.loop [1, 2, 3, 6, 7, 8, 63] ceil_Least.c26))) ceil_Least.c32)))
def ceil_Least.d : DFn := { ntmps := 64, res := [.t 6], body := (.seq (.region [⟨0, some 3, .boxv 63 [13, 23, 28, 33, 37, 53] (.t 0) 8, none⟩,
    ⟨1, some 6, .move (.k (.c (.int .i64 0))), none⟩]) (.seq (.seq (.region [⟨0, some 9, .move (.t 1), none⟩,
    ⟨1, some 10, .cmp .lss .i64 (.t 9) (.k (.c (.int .i64 0))), none⟩,
    ⟨2, some 11, .move (.t 10), none⟩,
    ⟨3, some 12, .move (.t 1), some (11, false)⟩,
    ⟨4, some 13, .faddr 3 3, some (11, false)⟩,
    ⟨5, some 14, .ldL 13 63 (.c (.int .i64)), some (11, false)⟩,
    ⟨6, some 15, .cmp .gtr .i64 (.t 12) (.t 14), some (11, false)⟩,
    ⟨7, some 16, .pick (.t 11) (.k (.c (.bool true))) (.t 15), none⟩,
    ⟨8, some 17, .move (.t 16), none⟩,
    ⟨9, some 18, .move (.t 2), some (17, false)⟩,
    ⟨10, some 19, .cmp .lss .i64 (.t 18) (.k (.c (.int .i64 0))), some (17, false)⟩,
    ⟨11, some 20, .pick (.t 17) (.k (.c (.bool true))) (.t 19), none⟩,
    ⟨12, some 21, .move (.t 20), none⟩,
    ⟨13, some 22, .move (.t 2), some (21, false)⟩,
    ⟨14, some 23, .faddr 3 6, some (21, false)⟩,
    ⟨15, some 24, .ldL 23 63 (.c (.int .i64)), some (21, false)⟩,
    ⟨16, some 25, .cmp .gtr .i64 (.t 22) (.t 24), some (21, false)⟩,
    ⟨17, some 26, .pick (.t 21) (.k (.c (.bool true))) (.t 25), none⟩,
    ⟨18, some 27, .move (.t 26), none⟩,
    ⟨19, some 28, .faddr 3 6, some (27, false)⟩,
    ⟨20, some 29, .ldL 28 63 (.c (.int .i64)), some (27, false)⟩,
    ⟨21, some 30, .cmp .gtr .i64 (.t 29) (.k (.c (.int .i64 65536))), some (27, false)⟩,
    ⟨22, some 31, .pick (.t 27) (.k (.c (.bool true))) (.t 30), none⟩,
    ⟨23, some 32, .move (.t 31), none⟩,
    ⟨24, some 33, .faddr 3 0, some (32, false)⟩,
    ⟨25, some 34, .ldL 33 63 (.c (.int .i64)), some (32, false)⟩,
    ⟨26, some 35, .cmp .lss .i64 (.t 34) (.k (.c (.int .i64 1))), some (32, false)⟩,
    ⟨27, some 36, .pick (.t 32) (.k (.c (.bool true))) (.t 35), none⟩]) (.cut [1, 2, 3, 6, 36, 63] ceil_Least.c6)) ceil_Least.c35)) }
def ceil_Least.k35 (M : Mach) (C : Call) : Kont := execC M.j C (M.ag C) ceil_Least.c35 ({ exits := [], ret := retK ceil_Least.d } : Env) (retK ceil_Least.d)
def ceil_Least.J6 (M : Mach) (C : Call) (class1 : Int) (at2 : Int) (sum6 : Int) (t36 : Bool) (c63_0 : Int) (c63_1 : Int) (c63_2 : Int) (c63_3 : Int) (c63_4 : Int) (c63_5 : Int) (c63_6 : Int) (c63_7 : Int) (G : GH) : Option Res := M.j (execC M.j C (M.ag C) ceil_Least.c6 ({ exits := [], ret := retK ceil_Least.d } : Env) (ceil_Least.k35 M C)) [.und, .v (.c (.int .i64 class1)), .v (.c (.int .i64 at2)), .ref 63 0, .und, .und, .v (.c (.int .i64 sum6)), .und, .und, .und, .und, .und, .und, .und, .und, .und, .und, .und, .und, .und, .und, .und, .und, .und, .und, .und, .und, .und, .und, .und, .und, .und, .und, .und, .und, .und, .v (.c (.bool t36)), .und, .und, .und, .und, .und, .und, .und, .und, .und, .und, .und, .und, .und, .und, .und, .und, .und, .und, .und, .und, .und, .und, .und, .und, .und, .und, .box [.int .i64 c63_0, .int .i64 c63_1, .int .i64 c63_2, .int .i64 c63_3, .int .i64 c63_4, .int .i64 c63_5, .int .i64 c63_6, .int .i64 c63_7]] G
def ceil_Least.k32 (M : Mach) (C : Call) : Kont := execC M.j C (M.ag C) ceil_Least.c32 ({ exits := [], ret := retK ceil_Least.d } : Env) (retK ceil_Least.d)
def ceil_Least.e28 (M : Mach) (C : Call) : Env := { exits := (0, (ceil_Least.k32 M C)) :: (({ exits := [], ret := retK ceil_Least.d } : Env)).exits, ret := (({ exits := [], ret := retK ceil_Least.d } : Env)).ret }
def ceil_Least.L27 (M : Mach) (C : Call) (class1 : Int) (at2 : Int) (sum6 : Int) (size7 : Int) (begins8 : Int) (c63_0 : Int) (c63_1 : Int) (c63_2 : Int) (c63_3 : Int) (c63_4 : Int) (c63_5 : Int) (c63_6 : Int) (c63_7 : Int) (G : GH) : Option Res := M.ag C [1, 2, 3, 6, 7, 8, 63] ceil_Least.c26 (ceil_Least.e28 M C) (ceil_Least.k32 M C) [.und, .v (.c (.int .i64 class1)), .v (.c (.int .i64 at2)), .ref 63 0, .und, .und, .v (.c (.int .i64 sum6)), .v (.c (.int .i64 size7)), .v (.c (.int .i64 begins8)), .und, .und, .und, .und, .und, .und, .und, .und, .und, .und, .und, .und, .und, .und, .und, .und, .und, .und, .und, .und, .und, .und, .und, .und, .und, .und, .und, .und, .und, .und, .und, .und, .und, .und, .und, .und, .und, .und, .und, .und, .und, .und, .und, .und, .und, .und, .und, .und, .und, .und, .und, .und, .und, .und, .box [.int .i64 c63_0, .int .i64 c63_1, .int .i64 c63_2, .int .i64 c63_3, .int .i64 c63_4, .int .i64 c63_5, .int .i64 c63_6, .int .i64 c63_7]] G
theorem ceil_Least.J6_eq (M : Mach) (C : Call) (class1 : Int) (at2 : Int) (sum6 : Int) (t36 : Bool) (c63_0 : Int) (c63_1 : Int) (c63_2 : Int) (c63_3 : Int) (c63_4 : Int) (c63_5 : Int) (c63_6 : Int) (c63_7 : Int) (G : GH) : ceil_Least.J6 M C class1 at2 sum6 t36 c63_0 c63_1 c63_2 c63_3 c63_4 c63_5 c63_6 c63_7 G = (bif t36 then some ([.c (.int .i64 0)], G) else (binD .shl .i64 c63_0 (IntKind.u64.wrap class1)).bind fun qx_1 => bif decide (qx_1 < 1) then some ([.c (.int .i64 0)], G) else ceil_Least.L27 M C class1 at2 sum6 qx_1 0 c63_0 c63_1 c63_2 c63_3 c63_4 c63_5 c63_6 c63_7 G) := (M.hj _ _ _).trans (by kernel_rfl)
theorem ceil_Least.L27_eq (M : Mach) (C : Call) (class1 : Int) (at2 : Int) (sum6 : Int) (size7 : Int) (begins8 : Int) (c63_0 : Int) (c63_1 : Int) (c63_2 : Int) (c63_3 : Int) (c63_4 : Int) (c63_5 : Int) (c63_6 : Int) (c63_7 : Int) (G : GH) : ceil_Least.L27 M C class1 at2 sum6 size7 begins8 c63_0 c63_1 c63_2 c63_3 c63_4 c63_5 c63_6 c63_7 G = (bif decide (begins8 ≤ IntKind.i64.wrap (at2 - size7)) then (C ceil_of.id [.agg [.int .i64 c63_0, .int .i64 c63_1, .int .i64 c63_2, .int .i64 c63_3, .int .i64 c63_4, .int .i64 c63_5, .int .i64 c63_6, .int .i64 c63_7], .c (.int .i64 class1), .c (.int .i64 begins8)] G).bind fun qr_2 => (((qr_2.1[0]?).bind V1.c?).bind (Cell.asI .i64)).bind fun qx_3 => (binD .shl .i64 c63_0 (IntKind.u64.wrap qx_3)).bind fun qx_4 => ceil_Least.L27 M C class1 at2 (IntKind.i64.wrap (sum6 + qx_4)) size7 (IntKind.i64.wrap (begins8 + size7)) c63_0 c63_1 c63_2 c63_3 c63_4 c63_5 c63_6 c63_7 qr_2.2 else some ([.c (.int .i64 sum6)], G)) := (M.hs _ _ _ _ _ _ _).trans (by kernel_rfl)
def ceil_Least.f (M : Mach) (C : Call) (c0_0 : Int) (c0_1 : Int) (c0_2 : Int) (c0_3 : Int) (c0_4 : Int) (c0_5 : Int) (c0_6 : Int) (c0_7 : Int) (class1 : Int) (at2 : Int) (G : GH) : Option Res := bif decide (class1 < 0) then ceil_Least.J6 M C class1 at2 0 true c0_0 c0_1 c0_2 c0_3 c0_4 c0_5 c0_6 c0_7 G else bif decide (class1 > c0_3) then ceil_Least.J6 M C class1 at2 0 true c0_0 c0_1 c0_2 c0_3 c0_4 c0_5 c0_6 c0_7 G else bif decide (at2 < 0) then ceil_Least.J6 M C class1 at2 0 true c0_0 c0_1 c0_2 c0_3 c0_4 c0_5 c0_6 c0_7 G else bif decide (at2 > c0_6) then ceil_Least.J6 M C class1 at2 0 true c0_0 c0_1 c0_2 c0_3 c0_4 c0_5 c0_6 c0_7 G else bif decide (c0_6 > 65536) then ceil_Least.J6 M C class1 at2 0 true c0_0 c0_1 c0_2 c0_3 c0_4 c0_5 c0_6 c0_7 G else ceil_Least.J6 M C class1 at2 0 (decide (c0_0 < 1)) c0_0 c0_1 c0_2 c0_3 c0_4 c0_5 c0_6 c0_7 G
theorem ceil_Least.eq (M : Mach) (C : Call) (c0_0 : Int) (c0_1 : Int) (c0_2 : Int) (c0_3 : Int) (c0_4 : Int) (c0_5 : Int) (c0_6 : Int) (c0_7 : Int) (class1 : Int) (at2 : Int) (G : GH) : runF M C ceil_Least.d [.agg [.int .i64 c0_0, .int .i64 c0_1, .int .i64 c0_2, .int .i64 c0_3, .int .i64 c0_4, .int .i64 c0_5, .int .i64 c0_6, .int .i64 c0_7], .c (.int .i64 class1), .c (.int .i64 at2)] G = ceil_Least.f M C c0_0 c0_1 c0_2 c0_3 c0_4 c0_5 c0_6 c0_7 class1 at2 G := by kernel_rfl

/- 30 hodman/ceil.Within -/
def ceil_Within.c13 : DCode := (.cond (.t 34) (.seq (.region [⟨0, some 4, .move (.k (.c (.bool false))), none⟩]) .ret) .skip)
def ceil_Within.c18 : DCode := (.region [⟨0, some 35, .bin .add .i64 (.t 11) (.k (.c (.int .i64 1))), none⟩,
    ⟨1, some 11, .move (.t 35), none⟩])
def ceil_Within.c21 : DCode := (.seq (.region [⟨0, some 12, .cmp .lss .i64 (.t 11) (.t 10), none⟩]) (.seq (.cond (.t 12) .skip (.exit 0)) (.seq (.block 1 (.seq (.region [⟨0, some 13, .iaddr (.t 9) (.t 11) 3, none⟩,
    ⟨1, some 14, .ldG 13 (.agg [.int .i64, .int .i64, .int .i64]), none⟩,
    ⟨2, some 6, .boxz 37 [17, 25, 30] [.int .i64 0, .int .i64 0, .int .i64 0], none⟩,
    ⟨3, none, .stL 6 37 (.t 14) 3, none⟩]) (.seq (.region [⟨0, some 16, .ldL 2 36 (.agg [.int .i64, .int .i64, .int .i64, .int .i64, .int .i64, .int .i64, .int .i64, .int .i64]), none⟩,
    ⟨1, some 17, .faddr 6 1, none⟩,
    ⟨2, some 18, .ldL 17 37 (.c (.int .i64)), none⟩,
    ⟨3, some 19, .call 49 [.t 16, .t 18] [.c (.int .i64), .c (.bool)], none⟩,
    ⟨4, some 15, .move (.t 19), none⟩,
    ⟨5, some 20, .ext 15 0, none⟩,
    ⟨6, some 21, .ext 15 1, none⟩,
    ⟨7, some 7, .move (.t 20), none⟩,
    ⟨8, some 8, .move (.t 21), none⟩]) (.seq (.region [⟨0, some 22, .move (.t 8), none⟩,
    ⟨1, some 23, .not (.t 22), none⟩,
    ⟨2, some 24, .move (.t 23), none⟩,
    ⟨3, some 25, .faddr 6 0, some (24, false)⟩,
    ⟨4, some 26, .ldL 25 37 (.c (.int .i64)), some (24, false)⟩,
    ⟨5, some 27, .ldL 2 36 (.agg [.int .i64, .int .i64, .int .i64, .int .i64, .int .i64, .int .i64, .int .i64, .int .i64]), some (24, false)⟩,
    ⟨6, some 28, .move (.t 7), some (24, false)⟩,
    ⟨7, some 29, .call 50 [.t 27, .t 28] [.c (.int .i64)], some (24, false)⟩,
    ⟨8, some 30, .faddr 6 1, some (24, false)⟩,
    ⟨9, some 31, .ldL 30 37 (.c (.int .i64)), some (24, false)⟩,
    ⟨10, some 32, .bin .sub .i64 (.t 29) (.t 31), some (24, false)⟩,
    ⟨11, some 33, .cmp .gtr .i64 (.t 26) (.t 32), some (24, false)⟩,
    ⟨12, some 34, .pick (.t 24) (.k (.c (.bool true))) (.t 33), none⟩]) (.cut [2, 9, 10, 11, 34, 36] ceil_Within.c13))))) ceil_Within.c18)))
def ceil_Within.c22 : DCode := (.loop [2, 9, 10, 11, 36] ceil_Within.c21)
def ceil_Within.c27 : DCode := (.seq (.region [⟨0, some 4, .move (.k (.c (.bool true))), none⟩]) .ret)
def ceil_Within.d : DFn := { ntmps := 38, res := [.t 4], body := (.seq (.region [⟨0, some 2, .boxv 36 [] (.t 0) 8, none⟩,
    ⟨1, some 4, .move (.k (.c (.bool false))), none⟩]) (.seq (.seq (.region [⟨0, some 9, .move (.t 1), none⟩,
    ⟨1, some 10, .len (.t 9), none⟩,
    ⟨2, some 11, .move (.k (.c (.int .i64 0))), none⟩]) (.block 0 ceil_Within.c22)) ceil_Within.c27)) }
def ceil_Within.k27 (M : Mach) (C : Call) : Kont := execC M.j C (M.ag C) ceil_Within.c27 ({ exits := [], ret := retK ceil_Within.d } : Env) (retK ceil_Within.d)
def ceil_Within.e23 (M : Mach) (C : Call) : Env := { exits := (0, (ceil_Within.k27 M C)) :: (({ exits := [], ret := retK ceil_Within.d } : Env)).exits, ret := (({ exits := [], ret := retK ceil_Within.d } : Env)).ret }
def ceil_Within.L22 (M : Mach) (C : Call) (t9i : Nat) (t9o : Nat) (t9n : Nat) (t10 : Int) (t11 : Int) (c36_0 : Int) (c36_1 : Int) (c36_2 : Int) (c36_3 : Int) (c36_4 : Int) (c36_5 : Int) (c36_6 : Int) (c36_7 : Int) (G : GH) : Option Res := M.ag C [2, 9, 10, 11, 36] ceil_Within.c21 (ceil_Within.e23 M C) (ceil_Within.k27 M C) [.und, .und, .ref 36 0, .und, .und, .und, .und, .und, .und, .v (.c (.sl 3 t9i t9o t9n)), .v (.c (.int .i64 t10)), .v (.c (.int .i64 t11)), .und, .und, .und, .und, .und, .und, .und, .und, .und, .und, .und, .und, .und, .und, .und, .und, .und, .und, .und, .und, .und, .und, .und, .und, .box [.int .i64 c36_0, .int .i64 c36_1, .int .i64 c36_2, .int .i64 c36_3, .int .i64 c36_4, .int .i64 c36_5, .int .i64 c36_6, .int .i64 c36_7], .und] G
def ceil_Within.k22 (M : Mach) (C : Call) : Kont := fun tm G => M.ag C [2, 9, 10, 11, 36] ceil_Within.c21 (ceil_Within.e23 M C) (ceil_Within.k27 M C) (restr [2, 9, 10, 11, 36] 0 tm) G
def ceil_Within.k18 (M : Mach) (C : Call) : Kont := execC M.j C (M.ag C) ceil_Within.c18 (ceil_Within.e23 M C) (ceil_Within.k22 M C)
def ceil_Within.e17 (M : Mach) (C : Call) : Env := { exits := (1, (ceil_Within.k18 M C)) :: ((ceil_Within.e23 M C)).exits, ret := ((ceil_Within.e23 M C)).ret }
def ceil_Within.J13 (M : Mach) (C : Call) (t9i : Nat) (t9o : Nat) (t9n : Nat) (t10 : Int) (t11 : Int) (t34 : Bool) (c36_0 : Int) (c36_1 : Int) (c36_2 : Int) (c36_3 : Int) (c36_4 : Int) (c36_5 : Int) (c36_6 : Int) (c36_7 : Int) (G : GH) : Option Res := M.j (execC M.j C (M.ag C) ceil_Within.c13 (ceil_Within.e17 M C) (ceil_Within.k18 M C)) [.und, .und, .ref 36 0, .und, .und, .und, .und, .und, .und, .v (.c (.sl 3 t9i t9o t9n)), .v (.c (.int .i64 t10)), .v (.c (.int .i64 t11)), .und, .und, .und, .und, .und, .und, .und, .und, .und, .und, .und, .und, .und, .und, .und, .und, .und, .und, .und, .und, .und, .und, .v (.c (.bool t34)), .und, .box [.int .i64 c36_0, .int .i64 c36_1, .int .i64 c36_2, .int .i64 c36_3, .int .i64 c36_4, .int .i64 c36_5, .int .i64 c36_6, .int .i64 c36_7], .und] G
theorem ceil_Within.L22_eq (M : Mach) (C : Call) (t9i : Nat) (t9o : Nat) (t9n : Nat) (t10 : Int) (t11 : Int) (c36_0 : Int) (c36_1 : Int) (c36_2 : Int) (c36_3 : Int) (c36_4 : Int) (c36_5 : Int) (c36_6 : Int) (c36_7 : Int) (G : GH) : ceil_Within.L22 M C t9i t9o t9n t10 t11 c36_0 c36_1 c36_2 c36_3 c36_4 c36_5 c36_6 c36_7 G = (bif decide (t11 < t10) then guardK (decide (0 ≤ t11 ∧ t11 < ((t9n : Nat) : Int))) (((G.ld t9i ((t9o + Int.toNat t11 * 3) + 0)).bind (Cell.asI .i64)).bind fun qx_1 => ((G.ld t9i ((t9o + Int.toNat t11 * 3) + 1)).bind (Cell.asI .i64)).bind fun qx_2 => ((G.ld t9i ((t9o + Int.toNat t11 * 3) + 2)).bind (Cell.asI .i64)).bind fun qx_3 => (C conf_Shift.id [.agg [.int .i64 c36_0, .int .i64 c36_1, .int .i64 c36_2, .int .i64 c36_3, .int .i64 c36_4, .int .i64 c36_5, .int .i64 c36_6, .int .i64 c36_7], .c (.int .i64 qx_2)] G).bind fun qr_4 => (((qr_4.1[0]?).bind V1.c?).bind (Cell.asI .i64)).bind fun qx_5 => (((qr_4.1[1]?).bind V1.c?).bind Cell.asB).bind fun qb_6 => bif (!qb_6) then ceil_Within.J13 M C t9i t9o t9n t10 t11 true c36_0 c36_1 c36_2 c36_3 c36_4 c36_5 c36_6 c36_7 qr_4.2 else (C conf_Ceil.id [.agg [.int .i64 c36_0, .int .i64 c36_1, .int .i64 c36_2, .int .i64 c36_3, .int .i64 c36_4, .int .i64 c36_5, .int .i64 c36_6, .int .i64 c36_7], .c (.int .i64 qx_5)] qr_4.2).bind fun qr_7 => (((qr_7.1[0]?).bind V1.c?).bind (Cell.asI .i64)).bind fun qx_8 => ceil_Within.J13 M C t9i t9o t9n t10 t11 (decide (qx_1 > IntKind.i64.wrap (qx_8 - qx_2))) c36_0 c36_1 c36_2 c36_3 c36_4 c36_5 c36_6 c36_7 qr_7.2) else some ([.c (.bool true)], G)) := (M.hs _ _ _ _ _ _ _).trans (by kernel_rfl)
theorem ceil_Within.J13_eq (M : Mach) (C : Call) (t9i : Nat) (t9o : Nat) (t9n : Nat) (t10 : Int) (t11 : Int) (t34 : Bool) (c36_0 : Int) (c36_1 : Int) (c36_2 : Int) (c36_3 : Int) (c36_4 : Int) (c36_5 : Int) (c36_6 : Int) (c36_7 : Int) (G : GH) : ceil_Within.J13 M C t9i t9o t9n t10 t11 t34 c36_0 c36_1 c36_2 c36_3 c36_4 c36_5 c36_6 c36_7 G = (bif t34 then some ([.c (.bool false)], G) else ceil_Within.L22 M C t9i t9o t9n t10 (IntKind.i64.wrap (t11 + 1)) c36_0 c36_1 c36_2 c36_3 c36_4 c36_5 c36_6 c36_7 G) := (M.hj _ _ _).trans (by kernel_rfl)
def ceil_Within.f (M : Mach) (C : Call) (c0_0 : Int) (c0_1 : Int) (c0_2 : Int) (c0_3 : Int) (c0_4 : Int) (c0_5 : Int) (c0_6 : Int) (c0_7 : Int) (l1i : Nat) (l1o : Nat) (l1n : Nat) (G : GH) : Option Res := ceil_Within.L22 M C l1i l1o l1n ((l1n : Nat) : Int) 0 c0_0 c0_1 c0_2 c0_3 c0_4 c0_5 c0_6 c0_7 G
theorem ceil_Within.eq (M : Mach) (C : Call) (c0_0 : Int) (c0_1 : Int) (c0_2 : Int) (c0_3 : Int) (c0_4 : Int) (c0_5 : Int) (c0_6 : Int) (c0_7 : Int) (l1i : Nat) (l1o : Nat) (l1n : Nat) (G : GH) : runF M C ceil_Within.d [.agg [.int .i64 c0_0, .int .i64 c0_1, .int .i64 c0_2, .int .i64 c0_3, .int .i64 c0_4, .int .i64 c0_5, .int .i64 c0_6, .int .i64 c0_7], .c (.sl 3 l1i l1o l1n)] G = ceil_Within.f M C c0_0 c0_1 c0_2 c0_3 c0_4 c0_5 c0_6 c0_7 l1i l1o l1n G := by kernel_rfl

/- 49 hodman/conf.Shift -/
def conf_Shift.c6 : DCode := (.cond (.t 23) (.seq (.region [⟨0, some 4, .move (.k (.c (.int .i64 0))), none⟩,
    ⟨1, some 5, .move (.k (.c (.bool false))), none⟩]) .ret) .skip)
def conf_Shift.c14 : DCode := (.cond (.t 39) (.seq (.region [⟨0, some 4, .move (.k (.c (.int .i64 0))), none⟩,
    ⟨1, some 5, .move (.k (.c (.bool false))), none⟩]) .ret) .skip)
def conf_Shift.c18 : DCode := (.seq (.region [⟨0, some 40, .move (.t 6), none⟩,
    ⟨1, some 4, .move (.t 40), none⟩,
    ⟨2, some 5, .move (.k (.c (.bool true))), none⟩]) .ret)
def conf_Shift.c20 : DCode := (.seq (.region [⟨0, some 25, .move (.t 1), none⟩,
    ⟨1, some 26, .faddr 2 0, none⟩,
    ⟨2, some 27, .ldL 26 41 (.c (.int .i64)), none⟩,
    ⟨3, some 28, .bin .quo .i64 (.t 25) (.t 27), none⟩,
    ⟨4, some 29, .call 62 [.t 28] [.c (.int .i64), .c (.bool)], none⟩,
    ⟨5, some 24, .move (.t 29), none⟩,
    ⟨6, some 30, .ext 24 0, none⟩,
    ⟨7, some 31, .ext 24 1, none⟩,
    ⟨8, some 6, .move (.t 30), none⟩,
    ⟨9, some 7, .move (.t 31), none⟩]) (.seq (.seq (.region [⟨0, some 32, .move (.t 7), none⟩,
    ⟨1, some 33, .not (.t 32), none⟩,
    ⟨2, some 34, .move (.t 33), none⟩,
    ⟨3, some 35, .move (.t 6), some (34, false)⟩,
    ⟨4, some 36, .faddr 2 3, some (34, false)⟩,
    ⟨5, some 37, .ldL 36 41 (.c (.int .i64)), some (34, false)⟩,
    ⟨6, some 38, .cmp .gtr .i64 (.t 35) (.t 37), some (34, false)⟩,
    ⟨7, some 39, .pick (.t 34) (.k (.c (.bool true))) (.t 38), none⟩]) (.cut [6, 39] conf_Shift.c14)) conf_Shift.c18))
def conf_Shift.d : DFn := { ntmps := 42, res := [.t 4, .t 5], body := (.seq (.region [⟨0, some 2, .boxv 41 [8, 13, 19, 26, 36] (.t 0) 8, none⟩,
    ⟨1, some 4, .move (.k (.c (.int .i64 0))), none⟩,
    ⟨2, some 5, .move (.k (.c (.bool false))), none⟩]) (.seq (.seq (.region [⟨0, some 8, .faddr 2 0, none⟩,
    ⟨1, some 9, .ldL 8 41 (.c (.int .i64)), none⟩,
    ⟨2, some 10, .cmp .lss .i64 (.t 9) (.k (.c (.int .i64 1))), none⟩,
    ⟨3, some 11, .move (.t 10), none⟩,
    ⟨4, some 12, .move (.t 1), some (11, false)⟩,
    ⟨5, some 13, .faddr 2 0, some (11, false)⟩,
    ⟨6, some 14, .ldL 13 41 (.c (.int .i64)), some (11, false)⟩,
    ⟨7, some 15, .cmp .lss .i64 (.t 12) (.t 14), some (11, false)⟩,
    ⟨8, some 16, .pick (.t 11) (.k (.c (.bool true))) (.t 15), none⟩,
    ⟨9, some 17, .move (.t 16), none⟩,
    ⟨10, some 18, .move (.t 1), some (17, false)⟩,
    ⟨11, some 19, .faddr 2 0, some (17, false)⟩,
    ⟨12, some 20, .ldL 19 41 (.c (.int .i64)), some (17, false)⟩,
    ⟨13, some 21, .bin .rem .i64 (.t 18) (.t 20), some (17, false)⟩,
    ⟨14, some 22, .cmp .neq .i64 (.t 21) (.k (.c (.int .i64 0))), some (17, false)⟩,
    ⟨15, some 23, .pick (.t 17) (.k (.c (.bool true))) (.t 22), none⟩]) (.cut [1, 2, 23, 41] conf_Shift.c6)) conf_Shift.c20)) }
def conf_Shift.k20 (M : Mach) (C : Call) : Kont := execC M.j C (M.ag C) conf_Shift.c20 ({ exits := [], ret := retK conf_Shift.d } : Env) (retK conf_Shift.d)
def conf_Shift.J6 (M : Mach) (C : Call) (charge1 : Int) (t23 : Bool) (c41_0 : Int) (c41_1 : Int) (c41_2 : Int) (c41_3 : Int) (c41_4 : Int) (c41_5 : Int) (c41_6 : Int) (c41_7 : Int) (G : GH) : Option Res := M.j (execC M.j C (M.ag C) conf_Shift.c6 ({ exits := [], ret := retK conf_Shift.d } : Env) (conf_Shift.k20 M C)) [.und, .v (.c (.int .i64 charge1)), .ref 41 0, .und, .und, .und, .und, .und, .und, .und, .und, .und, .und, .und, .und, .und, .und, .und, .und, .und, .und, .und, .und, .v (.c (.bool t23)), .und, .und, .und, .und, .und, .und, .und, .und, .und, .und, .und, .und, .und, .und, .und, .und, .und, .box [.int .i64 c41_0, .int .i64 c41_1, .int .i64 c41_2, .int .i64 c41_3, .int .i64 c41_4, .int .i64 c41_5, .int .i64 c41_6, .int .i64 c41_7]] G
def conf_Shift.k18 (M : Mach) (C : Call) : Kont := execC M.j C (M.ag C) conf_Shift.c18 ({ exits := [], ret := retK conf_Shift.d } : Env) (retK conf_Shift.d)
def conf_Shift.J14 (M : Mach) (C : Call) (class6 : Int) (t39 : Bool) (G : GH) : Option Res := M.j (execC M.j C (M.ag C) conf_Shift.c14 ({ exits := [], ret := retK conf_Shift.d } : Env) (conf_Shift.k18 M C)) [.und, .und, .und, .und, .und, .und, .v (.c (.int .i64 class6)), .und, .und, .und, .und, .und, .und, .und, .und, .und, .und, .und, .und, .und, .und, .und, .und, .und, .und, .und, .und, .und, .und, .und, .und, .und, .und, .und, .und, .und, .und, .und, .und, .v (.c (.bool t39)), .und, .und] G
theorem conf_Shift.J6_eq (M : Mach) (C : Call) (charge1 : Int) (t23 : Bool) (c41_0 : Int) (c41_1 : Int) (c41_2 : Int) (c41_3 : Int) (c41_4 : Int) (c41_5 : Int) (c41_6 : Int) (c41_7 : Int) (G : GH) : conf_Shift.J6 M C charge1 t23 c41_0 c41_1 c41_2 c41_3 c41_4 c41_5 c41_6 c41_7 G = (bif t23 then some ([.c (.int .i64 0), .c (.bool false)], G) else (binD .quo .i64 charge1 c41_0).bind fun qx_2 => (C calc_Log.id [.c (.int .i64 qx_2)] G).bind fun qr_3 => (((qr_3.1[0]?).bind V1.c?).bind (Cell.asI .i64)).bind fun qx_4 => (((qr_3.1[1]?).bind V1.c?).bind Cell.asB).bind fun qb_5 => bif (!qb_5) then conf_Shift.J14 M C qx_4 true qr_3.2 else conf_Shift.J14 M C qx_4 (decide (qx_4 > c41_3)) qr_3.2) := (M.hj _ _ _).trans (by kernel_rfl)
theorem conf_Shift.J14_eq (M : Mach) (C : Call) (class6 : Int) (t39 : Bool) (G : GH) : conf_Shift.J14 M C class6 t39 G = (bif t39 then some ([.c (.int .i64 0), .c (.bool false)], G) else some ([.c (.int .i64 class6), .c (.bool true)], G)) := (M.hj _ _ _).trans (by kernel_rfl)
def conf_Shift.f (M : Mach) (C : Call) (c0_0 : Int) (c0_1 : Int) (c0_2 : Int) (c0_3 : Int) (c0_4 : Int) (c0_5 : Int) (c0_6 : Int) (c0_7 : Int) (charge1 : Int) (G : GH) : Option Res := bif decide (c0_0 < 1) then conf_Shift.J6 M C charge1 true c0_0 c0_1 c0_2 c0_3 c0_4 c0_5 c0_6 c0_7 G else bif decide (charge1 < c0_0) then conf_Shift.J6 M C charge1 true c0_0 c0_1 c0_2 c0_3 c0_4 c0_5 c0_6 c0_7 G else (binD .rem .i64 charge1 c0_0).bind fun qx_1 => conf_Shift.J6 M C charge1 (!decide (qx_1 = 0)) c0_0 c0_1 c0_2 c0_3 c0_4 c0_5 c0_6 c0_7 G
theorem conf_Shift.eq (M : Mach) (C : Call) (c0_0 : Int) (c0_1 : Int) (c0_2 : Int) (c0_3 : Int) (c0_4 : Int) (c0_5 : Int) (c0_6 : Int) (c0_7 : Int) (charge1 : Int) (G : GH) : runF M C conf_Shift.d [.agg [.int .i64 c0_0, .int .i64 c0_1, .int .i64 c0_2, .int .i64 c0_3, .int .i64 c0_4, .int .i64 c0_5, .int .i64 c0_6, .int .i64 c0_7], .c (.int .i64 charge1)] G = conf_Shift.f M C c0_0 c0_1 c0_2 c0_3 c0_4 c0_5 c0_6 c0_7 charge1 G := by kernel_rfl

/- 19 (*hodman/hodmanplay.Picks).Raw -/
def hodmanplay_Picks_Raw.c10 : DCode := (.seq (.region [⟨0, some 30, .ldL 6 32 (.agg [.int .i64, .int .i64, .int .i64, .int .i64, .int .i64, .int .i64]), none⟩,
    ⟨1, none, .stL 4 31 (.t 30) 6, none⟩]) .ret)
def hodmanplay_Picks_Raw.d : DFn := { ntmps := 33, res := [.box 4 (some 6)], body := (.seq (.region [⟨0, some 4, .boxz 31 [] [.int .i64 0, .int .i64 0, .int .i64 0, .int .i64 0, .int .i64 0, .int .i64 0], none⟩]) (.seq (.region [⟨0, some 7, .move (.t 0), none⟩,
    ⟨1, some 8, .call 37 [.t 7, .k (.c (.int .i64 9))] [.c (.int .i64)], none⟩,
    ⟨2, some 9, .bin .add .i64 (.k (.c (.int .i64 1))) (.t 8), none⟩,
    ⟨3, some 5, .move (.t 9), none⟩]) (.seq (.region [⟨0, some 10, .move (.t 5), none⟩,
    ⟨1, some 11, .move (.t 5), none⟩,
    ⟨2, some 12, .move (.t 0), none⟩,
    ⟨3, some 13, .call 37 [.t 12, .k (.c (.int .i64 12))] [.c (.int .i64)], none⟩,
    ⟨4, some 14, .bin .add .i64 (.k (.c (.int .i64 1))) (.t 13), none⟩,
    ⟨5, some 15, .bin .mul .i64 (.t 11) (.t 14), none⟩,
    ⟨6, some 16, .move (.t 0), none⟩,
    ⟨7, some 17, .call 37 [.t 16, .k (.c (.int .i64 150))] [.c (.int .i64)], none⟩,
    ⟨8, some 18, .bin .add .i64 (.k (.c (.int .i64 1))) (.t 17), none⟩,
    ⟨9, some 19, .move (.t 0), none⟩,
    ⟨10, some 20, .call 37 [.t 19, .k (.c (.int .i64 30))] [.c (.int .i64)], none⟩,
    ⟨11, some 21, .bin .add .i64 (.k (.c (.int .i64 1))) (.t 20), none⟩,
    ⟨12, some 22, .move (.t 0), none⟩,
    ⟨13, some 23, .call 37 [.t 22, .k (.c (.int .i64 200))] [.c (.int .i64)], none⟩,
    ⟨14, some 24, .move (.t 0), none⟩,
    ⟨15, some 25, .call 37 [.t 24, .k (.c (.int .i64 20))] [.c (.int .i64)], none⟩,
    ⟨16, some 26, .bin .add .i64 (.k (.c (.int .i64 1))) (.t 25), none⟩,
    ⟨17, some 27, .build [.int .i64 0, .int .i64 0, .int .i64 0, .int .i64 0, .int .i64 0, .int .i64 0] [(0, 1, .t 10), (1, 1, .t 15), (2, 1, .t 18), (3, 1, .t 21), (5, 1, .t 23), (4, 1, .t 26)], none⟩,
    ⟨18, some 6, .boxz 32 [29] [.int .i64 0, .int .i64 0, .int .i64 0, .int .i64 0, .int .i64 0, .int .i64 0], none⟩,
    ⟨19, none, .stL 6 32 (.t 27) 6, none⟩]) (.seq (.seq (.region [⟨0, some 28, .move (.t 1), none⟩]) (.cond (.t 28) (.region [⟨0, some 29, .faddr 6 4, none⟩,
    ⟨1, none, .stL 29 32 (.k (.c (.int .i64 5000))) 1, none⟩]) .skip)) (.cut [4, 6, 31, 32] hodmanplay_Picks_Raw.c10))))) }
def hodmanplay_Picks_Raw.J10 (M : Mach) (C : Call) (x31_0 : Int) (x31_1 : Int) (x31_2 : Int) (x31_3 : Int) (x31_4 : Int) (x31_5 : Int) (r32_0 : Int) (r32_1 : Int) (r32_2 : Int) (r32_3 : Int) (r32_4 : Int) (r32_5 : Int) (G : GH) : Option Res := M.j (execC M.j C (M.ag C) hodmanplay_Picks_Raw.c10 ({ exits := [], ret := retK hodmanplay_Picks_Raw.d } : Env) (retK hodmanplay_Picks_Raw.d)) [.und, .und, .und, .und, .ref 31 0, .und, .ref 32 0, .und, .und, .und, .und, .und, .und, .und, .und, .und, .und, .und, .und, .und, .und, .und, .und, .und, .und, .und, .und, .und, .und, .und, .und, .box [.int .i64 x31_0, .int .i64 x31_1, .int .i64 x31_2, .int .i64 x31_3, .int .i64 x31_4, .int .i64 x31_5], .box [.int .i64 r32_0, .int .i64 r32_1, .int .i64 r32_2, .int .i64 r32_3, .int .i64 r32_4, .int .i64 r32_5]] G
theorem hodmanplay_Picks_Raw.J10_eq (M : Mach) (C : Call) (x31_0 : Int) (x31_1 : Int) (x31_2 : Int) (x31_3 : Int) (x31_4 : Int) (x31_5 : Int) (r32_0 : Int) (r32_1 : Int) (r32_2 : Int) (r32_3 : Int) (r32_4 : Int) (r32_5 : Int) (G : GH) : hodmanplay_Picks_Raw.J10 M C x31_0 x31_1 x31_2 x31_3 x31_4 x31_5 r32_0 r32_1 r32_2 r32_3 r32_4 r32_5 G = (some ([.agg [.int .i64 r32_0, .int .i64 r32_1, .int .i64 r32_2, .int .i64 r32_3, .int .i64 r32_4, .int .i64 r32_5]], G)) := (M.hj _ _ _).trans (by kernel_rfl)
def hodmanplay_Picks_Raw.f (M : Mach) (C : Call) (p0i : Nat) (p0o : Nat) (budget1 : Bool) (G : GH) : Option Res := (C hodmanplay_Picks_Num.id [.c (.ptr p0i p0o), .c (.int .i64 9)] G).bind fun qr_1 => (((qr_1.1[0]?).bind V1.c?).bind (Cell.asI .i64)).bind fun qx_2 => (C hodmanplay_Picks_Num.id [.c (.ptr p0i p0o), .c (.int .i64 12)] qr_1.2).bind fun qr_3 => (((qr_3.1[0]?).bind V1.c?).bind (Cell.asI .i64)).bind fun qx_4 => (C hodmanplay_Picks_Num.id [.c (.ptr p0i p0o), .c (.int .i64 150)] qr_3.2).bind fun qr_5 => (((qr_5.1[0]?).bind V1.c?).bind (Cell.asI .i64)).bind fun qx_6 => (C hodmanplay_Picks_Num.id [.c (.ptr p0i p0o), .c (.int .i64 30)] qr_5.2).bind fun qr_7 => (((qr_7.1[0]?).bind V1.c?).bind (Cell.asI .i64)).bind fun qx_8 => (C hodmanplay_Picks_Num.id [.c (.ptr p0i p0o), .c (.int .i64 200)] qr_7.2).bind fun qr_9 => (((qr_9.1[0]?).bind V1.c?).bind (Cell.asI .i64)).bind fun qx_10 => (C hodmanplay_Picks_Num.id [.c (.ptr p0i p0o), .c (.int .i64 20)] qr_9.2).bind fun qr_11 => (((qr_11.1[0]?).bind V1.c?).bind (Cell.asI .i64)).bind fun qx_12 => bif budget1 then hodmanplay_Picks_Raw.J10 M C 0 0 0 0 0 0 (IntKind.i64.wrap (1 + qx_2)) (IntKind.i64.wrap ((IntKind.i64.wrap (1 + qx_2)) * (IntKind.i64.wrap (1 + qx_4)))) (IntKind.i64.wrap (1 + qx_6)) (IntKind.i64.wrap (1 + qx_8)) 5000 qx_10 qr_11.2 else hodmanplay_Picks_Raw.J10 M C 0 0 0 0 0 0 (IntKind.i64.wrap (1 + qx_2)) (IntKind.i64.wrap ((IntKind.i64.wrap (1 + qx_2)) * (IntKind.i64.wrap (1 + qx_4)))) (IntKind.i64.wrap (1 + qx_6)) (IntKind.i64.wrap (1 + qx_8)) (IntKind.i64.wrap (1 + qx_12)) qx_10 qr_11.2
theorem hodmanplay_Picks_Raw.eq (M : Mach) (C : Call) (p0i : Nat) (p0o : Nat) (budget1 : Bool) (G : GH) : runF M C hodmanplay_Picks_Raw.d [.c (.ptr p0i p0o), .c (.bool budget1)] G = hodmanplay_Picks_Raw.f M C p0i p0o budget1 G := by kernel_rfl

/- 48 hodman/ceil.of -/
def ceil_of.c4 : DCode := (.cond (.t 16) .skip (.exit 0))
def ceil_of.c7 : DCode := (.block 1 (.region [⟨0, some 17, .move (.t 6), none⟩,
    ⟨1, some 18, .bin .add .i64 (.t 17) (.k (.c (.int .i64 1))), none⟩,
    ⟨2, some 6, .move (.t 18), none⟩]))
def ceil_of.c8 : DCode := (.seq (.seq (.region [⟨0, some 7, .move (.t 6), none⟩,
    ⟨1, some 8, .move (.t 1), none⟩,
    ⟨2, some 9, .cmp .lss .i64 (.t 7) (.t 8), none⟩,
    ⟨3, some 10, .move (.t 9), none⟩,
    ⟨4, some 11, .ldL 3 20 (.agg [.int .i64, .int .i64, .int .i64, .int .i64, .int .i64, .int .i64, .int .i64, .int .i64]), some (10, true)⟩,
    ⟨5, some 12, .move (.t 6), some (10, true)⟩,
    ⟨6, some 13, .call 50 [.t 11, .t 12] [.c (.int .i64)], some (10, true)⟩,
    ⟨7, some 14, .move (.t 2), some (10, true)⟩,
    ⟨8, some 15, .cmp .leq .i64 (.t 13) (.t 14), some (10, true)⟩,
    ⟨9, some 16, .pick (.t 10) (.t 15) (.k (.c (.bool false))), none⟩]) (.cut [1, 2, 3, 6, 16, 20] ceil_of.c4)) ceil_of.c7)
def ceil_of.c9 : DCode := (.loop [1, 2, 3, 6, 20] ceil_of.c8)
def ceil_of.c13 : DCode := (.seq (.region [⟨0, some 19, .move (.t 6), none⟩,
    ⟨1, some 6, .move (.t 19), none⟩]) .ret)
def ceil_of.d : DFn := { ntmps := 21, res := [.t 6], body := (.seq (.region [⟨0, some 3, .boxv 20 [] (.t 0) 8, none⟩,
    ⟨1, some 6, .move (.k (.c (.int .i64 0))), none⟩]) (.seq (.block 0 ceil_of.c9) ceil_of.c13)) }
def ceil_of.k13 (M : Mach) (C : Call) : Kont := execC M.j C (M.ag C) ceil_of.c13 ({ exits := [], ret := retK ceil_of.d } : Env) (retK ceil_of.d)
def ceil_of.e10 (M : Mach) (C : Call) : Env := { exits := (0, (ceil_of.k13 M C)) :: (({ exits := [], ret := retK ceil_of.d } : Env)).exits, ret := (({ exits := [], ret := retK ceil_of.d } : Env)).ret }
def ceil_of.L9 (M : Mach) (C : Call) (class1 : Int) (begins2 : Int) (i6 : Int) (c20_0 : Int) (c20_1 : Int) (c20_2 : Int) (c20_3 : Int) (c20_4 : Int) (c20_5 : Int) (c20_6 : Int) (c20_7 : Int) (G : GH) : Option Res := M.ag C [1, 2, 3, 6, 20] ceil_of.c8 (ceil_of.e10 M C) (ceil_of.k13 M C) [.und, .v (.c (.int .i64 class1)), .v (.c (.int .i64 begins2)), .ref 20 0, .und, .und, .v (.c (.int .i64 i6)), .und, .und, .und, .und, .und, .und, .und, .und, .und, .und, .und, .und, .und, .box [.int .i64 c20_0, .int .i64 c20_1, .int .i64 c20_2, .int .i64 c20_3, .int .i64 c20_4, .int .i64 c20_5, .int .i64 c20_6, .int .i64 c20_7]] G
def ceil_of.k9 (M : Mach) (C : Call) : Kont := fun tm G => M.ag C [1, 2, 3, 6, 20] ceil_of.c8 (ceil_of.e10 M C) (ceil_of.k13 M C) (restr [1, 2, 3, 6, 20] 0 tm) G
def ceil_of.k7 (M : Mach) (C : Call) : Kont := execC M.j C (M.ag C) ceil_of.c7 (ceil_of.e10 M C) (ceil_of.k9 M C)
def ceil_of.J4 (M : Mach) (C : Call) (class1 : Int) (begins2 : Int) (i6 : Int) (t16 : Bool) (c20_0 : Int) (c20_1 : Int) (c20_2 : Int) (c20_3 : Int) (c20_4 : Int) (c20_5 : Int) (c20_6 : Int) (c20_7 : Int) (G : GH) : Option Res := M.j (execC M.j C (M.ag C) ceil_of.c4 (ceil_of.e10 M C) (ceil_of.k7 M C)) [.und, .v (.c (.int .i64 class1)), .v (.c (.int .i64 begins2)), .ref 20 0, .und, .und, .v (.c (.int .i64 i6)), .und, .und, .und, .und, .und, .und, .und, .und, .und, .v (.c (.bool t16)), .und, .und, .und, .box [.int .i64 c20_0, .int .i64 c20_1, .int .i64 c20_2, .int .i64 c20_3, .int .i64 c20_4, .int .i64 c20_5, .int .i64 c20_6, .int .i64 c20_7]] G
theorem ceil_of.L9_eq (M : Mach) (C : Call) (class1 : Int) (begins2 : Int) (i6 : Int) (c20_0 : Int) (c20_1 : Int) (c20_2 : Int) (c20_3 : Int) (c20_4 : Int) (c20_5 : Int) (c20_6 : Int) (c20_7 : Int) (G : GH) : ceil_of.L9 M C class1 begins2 i6 c20_0 c20_1 c20_2 c20_3 c20_4 c20_5 c20_6 c20_7 G = (bif decide (i6 < class1) then (C conf_Ceil.id [.agg [.int .i64 c20_0, .int .i64 c20_1, .int .i64 c20_2, .int .i64 c20_3, .int .i64 c20_4, .int .i64 c20_5, .int .i64 c20_6, .int .i64 c20_7], .c (.int .i64 i6)] G).bind fun qr_1 => (((qr_1.1[0]?).bind V1.c?).bind (Cell.asI .i64)).bind fun qx_2 => ceil_of.J4 M C class1 begins2 i6 (decide (qx_2 ≤ begins2)) c20_0 c20_1 c20_2 c20_3 c20_4 c20_5 c20_6 c20_7 qr_1.2 else ceil_of.J4 M C class1 begins2 i6 false c20_0 c20_1 c20_2 c20_3 c20_4 c20_5 c20_6 c20_7 G) := (M.hs _ _ _ _ _ _ _).trans (by kernel_rfl)
theorem ceil_of.J4_eq (M : Mach) (C : Call) (class1 : Int) (begins2 : Int) (i6 : Int) (t16 : Bool) (c20_0 : Int) (c20_1 : Int) (c20_2 : Int) (c20_3 : Int) (c20_4 : Int) (c20_5 : Int) (c20_6 : Int) (c20_7 : Int) (G : GH) : ceil_of.J4 M C class1 begins2 i6 t16 c20_0 c20_1 c20_2 c20_3 c20_4 c20_5 c20_6 c20_7 G = (bif t16 then ceil_of.L9 M C class1 begins2 (IntKind.i64.wrap (i6 + 1)) c20_0 c20_1 c20_2 c20_3 c20_4 c20_5 c20_6 c20_7 G else some ([.c (.int .i64 i6)], G)) := (M.hj _ _ _).trans (by kernel_rfl)
def ceil_of.f (M : Mach) (C : Call) (c0_0 : Int) (c0_1 : Int) (c0_2 : Int) (c0_3 : Int) (c0_4 : Int) (c0_5 : Int) (c0_6 : Int) (c0_7 : Int) (class1 : Int) (begins2 : Int) (G : GH) : Option Res := ceil_of.L9 M C class1 begins2 0 c0_0 c0_1 c0_2 c0_3 c0_4 c0_5 c0_6 c0_7 G
theorem ceil_of.eq (M : Mach) (C : Call) (c0_0 : Int) (c0_1 : Int) (c0_2 : Int) (c0_3 : Int) (c0_4 : Int) (c0_5 : Int) (c0_6 : Int) (c0_7 : Int) (class1 : Int) (begins2 : Int) (G : GH) : runF M C ceil_of.d [.agg [.int .i64 c0_0, .int .i64 c0_1, .int .i64 c0_2, .int .i64 c0_3, .int .i64 c0_4, .int .i64 c0_5, .int .i64 c0_6, .int .i64 c0_7], .c (.int .i64 class1), .c (.int .i64 begins2)] G = ceil_of.f M C c0_0 c0_1 c0_2 c0_3 c0_4 c0_5 c0_6 c0_7 class1 begins2 G := by kernel_rfl

/- 28 hodman/hodmanlaw20.begun -/
def hodmanlaw20_begun.d : DFn := { ntmps := 30, res := [.t 0], body := (.seq (.region [⟨0, some 0, .move (.k (.c (.bool false))), none⟩]) (.seq (.region [⟨0, some 4, .build [.int .i64 0, .int .i64 0, .int .i64 0, .int .i64 0, .int .i64 0, .int .i64 0] [(0, 1, .k (.c (.int .i64 1))), (1, 1, .k (.c (.int .i64 4))), (2, 1, .k (.c (.int .i64 8))), (3, 1, .k (.c (.int .i64 4)))], none⟩,
    ⟨1, some 5, .call 24 [.t 4] [.agg [.int .i64, .int .i64, .int .i64, .int .i64, .int .i64, .int .i64, .int .i64, .int .i64], .c (.int .i64)], none⟩,
    ⟨2, some 3, .move (.t 5), none⟩,
    ⟨3, some 6, .ext 3 0, none⟩,
    ⟨4, some 7, .ext 3 1, none⟩,
    ⟨5, some 1, .boxz 29 [] [.int .i64 0, .int .i64 0, .int .i64 0, .int .i64 0, .int .i64 0, .int .i64 0, .int .i64 0, .int .i64 0], none⟩,
    ⟨6, none, .stL 1 29 (.t 6) 8, none⟩,
    ⟨7, some 2, .move (.t 7), none⟩]) (.seq (.region [⟨0, some 8, .ldL 1 29 (.agg [.int .i64, .int .i64, .int .i64, .int .i64, .int .i64, .int .i64, .int .i64, .int .i64]), none⟩,
    ⟨1, some 9, .build [.int .i64 0, .int .i64 0, .int .i64 0] [(0, 1, .k (.c (.int .i64 12))), (1, 1, .k (.c (.int .i64 4)))], none⟩,
    ⟨2, some 10, .bslice 1 3 [.int .i64 0, .int .i64 0, .int .i64 0] [(0, 3, .t 9)], none⟩,
    ⟨3, some 11, .call 30 [.t 8, .t 10] [.c (.bool)], none⟩,
    ⟨4, some 12, .move (.t 11), none⟩,
    ⟨5, some 13, .ldL 1 29 (.agg [.int .i64, .int .i64, .int .i64, .int .i64, .int .i64, .int .i64, .int .i64, .int .i64]), some (12, true)⟩,
    ⟨6, some 14, .build [.int .i64 0, .int .i64 0, .int .i64 0] [(0, 1, .k (.c (.int .i64 8))), (1, 1, .k (.c (.int .i64 1)))], some (12, true)⟩,
    ⟨7, some 15, .bslice 1 3 [.int .i64 0, .int .i64 0, .int .i64 0] [(0, 3, .t 14)], some (12, true)⟩,
    ⟨8, some 16, .call 30 [.t 13, .t 15] [.c (.bool)], some (12, true)⟩,
    ⟨9, some 17, .not (.t 16), some (12, true)⟩,
    ⟨10, some 18, .pick (.t 12) (.t 17) (.k (.c (.bool false))), none⟩,
    ⟨11, some 19, .move (.t 18), none⟩,
    ⟨12, some 20, .ldL 1 29 (.agg [.int .i64, .int .i64, .int .i64, .int .i64, .int .i64, .int .i64, .int .i64, .int .i64]), some (19, true)⟩,
    ⟨13, some 21, .call 29 [.t 20, .k (.c (.int .i64 0)), .k (.c (.int .i64 3))] [.c (.int .i64)], some (19, true)⟩,
    ⟨14, some 22, .cmp .eql .i64 (.t 21) (.k (.c (.int .i64 3))), some (19, true)⟩,
    ⟨15, some 23, .pick (.t 19) (.t 22) (.k (.c (.bool false))), none⟩,
    ⟨16, some 24, .move (.t 23), none⟩,
    ⟨17, some 25, .ldL 1 29 (.agg [.int .i64, .int .i64, .int .i64, .int .i64, .int .i64, .int .i64, .int .i64, .int .i64]), some (24, true)⟩,
    ⟨18, some 26, .call 29 [.t 25, .k (.c (.int .i64 2)), .k (.c (.int .i64 16))] [.c (.int .i64)], some (24, true)⟩,
    ⟨19, some 27, .cmp .eql .i64 (.t 26) (.k (.c (.int .i64 8))), some (24, true)⟩,
    ⟨20, some 28, .pick (.t 24) (.t 27) (.k (.c (.bool false))), none⟩,
    ⟨21, some 0, .move (.t 28), none⟩]) .ret))) }
def hodmanlaw20_begun.f (M : Mach) (C : Call)  (G : GH) : Option Res := (C hodmanref1_Of.id [.agg [.int .i64 1, .int .i64 4, .int .i64 8, .int .i64 4, .int .i64 0, .int .i64 0]] G).bind fun qr_1 => ((qr_1.1[0]?).bind V1.a?).bind fun qcs_2 => if qcs_2.length = 8 then (((qcs_2[0]?).bind (Cell.asI .i64)).bind fun qx_3 => ((qcs_2[1]?).bind (Cell.asI .i64)).bind fun qx_4 => ((qcs_2[2]?).bind (Cell.asI .i64)).bind fun qx_5 => ((qcs_2[3]?).bind (Cell.asI .i64)).bind fun qx_6 => ((qcs_2[4]?).bind (Cell.asI .i64)).bind fun qx_7 => ((qcs_2[5]?).bind (Cell.asI .i64)).bind fun qx_8 => ((qcs_2[6]?).bind (Cell.asI .i64)).bind fun qx_9 => ((qcs_2[7]?).bind (Cell.asI .i64)).bind fun qx_10 => (((qr_1.1[1]?).bind V1.c?).bind (Cell.asI .i64)).bind fun qx_11 => let qG_12 := qr_1.2.alloc (.row [.int .i64 12, .int .i64 4, .int .i64 0] false); (C ceil_Within.id [.agg [.int .i64 qx_3, .int .i64 qx_4, .int .i64 qx_5, .int .i64 qx_6, .int .i64 qx_7, .int .i64 qx_8, .int .i64 qx_9, .int .i64 qx_10], .c (.sl 3 qr_1.2.next 0 1)] qG_12).bind fun qr_13 => (((qr_13.1[0]?).bind V1.c?).bind Cell.asB).bind fun qb_14 => bif qb_14 then let qG_15 := qr_13.2.alloc (.row [.int .i64 8, .int .i64 1, .int .i64 0] false); (C ceil_Within.id [.agg [.int .i64 qx_3, .int .i64 qx_4, .int .i64 qx_5, .int .i64 qx_6, .int .i64 qx_7, .int .i64 qx_8, .int .i64 qx_9, .int .i64 qx_10], .c (.sl 3 qr_13.2.next 0 1)] qG_15).bind fun qr_16 => (((qr_16.1[0]?).bind V1.c?).bind Cell.asB).bind fun qb_17 => bif (!qb_17) then (C ceil_Least.id [.agg [.int .i64 qx_3, .int .i64 qx_4, .int .i64 qx_5, .int .i64 qx_6, .int .i64 qx_7, .int .i64 qx_8, .int .i64 qx_9, .int .i64 qx_10], .c (.int .i64 0), .c (.int .i64 3)] qr_16.2).bind fun qr_18 => (((qr_18.1[0]?).bind V1.c?).bind (Cell.asI .i64)).bind fun qx_19 => bif decide (qx_19 = 3) then (C ceil_Least.id [.agg [.int .i64 qx_3, .int .i64 qx_4, .int .i64 qx_5, .int .i64 qx_6, .int .i64 qx_7, .int .i64 qx_8, .int .i64 qx_9, .int .i64 qx_10], .c (.int .i64 2), .c (.int .i64 16)] qr_18.2).bind fun qr_20 => (((qr_20.1[0]?).bind V1.c?).bind (Cell.asI .i64)).bind fun qx_21 => some ([.c (.bool (decide (qx_21 = 8)))], qr_20.2) else some ([.c (.bool false)], qr_18.2) else some ([.c (.bool false)], qr_16.2) else some ([.c (.bool false)], qr_13.2)) else none
theorem hodmanlaw20_begun.eq (M : Mach) (C : Call)  (G : GH) : runF M C hodmanlaw20_begun.d [] G = hodmanlaw20_begun.f M C  G := by kernel_rfl

/- 37 (*hodman/hodmanplay.Picks).Num -/
def hodmanplay_Picks_Num.c6 : DCode := (.cond (.t 18) (.seq (.region [⟨0, some 4, .move (.k (.c (.int .i64 0))), none⟩]) .ret) .skip)
def hodmanplay_Picks_Num.c12 : DCode := (.seq (.region [⟨0, some 19, .move (.t 0), none⟩,
    ⟨1, some 20, .nilck (.t 19), none⟩,
    ⟨2, some 21, .faddr 20 1, none⟩,
    ⟨3, some 22, .ldG 21 (.c (.int .i64)), none⟩,
    ⟨4, some 23, .bin .add .i64 (.t 22) (.k (.c (.int .i64 1))), none⟩,
    ⟨5, some 24, .nilck (.t 19), none⟩,
    ⟨6, some 25, .faddr 24 1, none⟩,
    ⟨7, none, .stG 25 (.t 23) 1, none⟩]) (.seq (.region [⟨0, some 26, .move (.t 0), none⟩,
    ⟨1, some 27, .nilck (.t 26), none⟩,
    ⟨2, some 28, .faddr 27 0, none⟩,
    ⟨3, some 29, .ldG 28 (.c (.sl 1)), none⟩,
    ⟨4, some 30, .move (.t 0), none⟩,
    ⟨5, some 31, .nilck (.t 30), none⟩,
    ⟨6, some 32, .faddr 31 1, none⟩,
    ⟨7, some 33, .ldG 32 (.c (.int .i64)), none⟩,
    ⟨8, some 34, .bin .sub .i64 (.t 33) (.k (.c (.int .i64 1))), none⟩,
    ⟨9, some 35, .iaddr (.t 29) (.t 34) 1, none⟩,
    ⟨10, some 36, .ldG 35 (.c (.int .u8)), none⟩,
    ⟨11, some 37, .conv .i64 (.t 36), none⟩,
    ⟨12, some 38, .move (.t 1), none⟩,
    ⟨13, some 39, .bin .rem .i64 (.t 37) (.t 38), none⟩,
    ⟨14, some 4, .move (.t 39), none⟩]) .ret))
def hodmanplay_Picks_Num.d : DFn := { ntmps := 40, res := [.t 4], body := (.seq (.region [⟨0, some 4, .move (.k (.c (.int .i64 0))), none⟩]) (.seq (.seq (.region [⟨0, some 5, .move (.t 0), none⟩,
    ⟨1, some 6, .nilck (.t 5), none⟩,
    ⟨2, some 7, .faddr 6 1, none⟩,
    ⟨3, some 8, .ldG 7 (.c (.int .i64)), none⟩,
    ⟨4, some 9, .move (.t 0), none⟩,
    ⟨5, some 10, .nilck (.t 9), none⟩,
    ⟨6, some 11, .faddr 10 0, none⟩,
    ⟨7, some 12, .ldG 11 (.c (.sl 1)), none⟩,
    ⟨8, some 13, .len (.t 12), none⟩,
    ⟨9, some 14, .cmp .geq .i64 (.t 8) (.t 13), none⟩,
    ⟨10, some 15, .move (.t 14), none⟩,
    ⟨11, some 16, .move (.t 1), some (15, false)⟩,
    ⟨12, some 17, .cmp .lss .i64 (.t 16) (.k (.c (.int .i64 1))), some (15, false)⟩,
    ⟨13, some 18, .pick (.t 15) (.k (.c (.bool true))) (.t 17), none⟩]) (.cut [0, 1, 18] hodmanplay_Picks_Num.c6)) hodmanplay_Picks_Num.c12)) }
def hodmanplay_Picks_Num.k12 (M : Mach) (C : Call) : Kont := execC M.j C (M.ag C) hodmanplay_Picks_Num.c12 ({ exits := [], ret := retK hodmanplay_Picks_Num.d } : Env) (retK hodmanplay_Picks_Num.d)
def hodmanplay_Picks_Num.J6 (M : Mach) (C : Call) (p0i : Nat) (p0o : Nat) (m1 : Int) (t18 : Bool) (G : GH) : Option Res := M.j (execC M.j C (M.ag C) hodmanplay_Picks_Num.c6 ({ exits := [], ret := retK hodmanplay_Picks_Num.d } : Env) (hodmanplay_Picks_Num.k12 M C)) [.v (.c (.ptr p0i p0o)), .v (.c (.int .i64 m1)), .und, .und, .und, .und, .und, .und, .und, .und, .und, .und, .und, .und, .und, .und, .und, .und, .v (.c (.bool t18)), .und, .und, .und, .und, .und, .und, .und, .und, .und, .und, .und, .und, .und, .und, .und, .und, .und, .und, .und, .und, .und] G
theorem hodmanplay_Picks_Num.J6_eq (M : Mach) (C : Call) (p0i : Nat) (p0o : Nat) (m1 : Int) (t18 : Bool) (G : GH) : hodmanplay_Picks_Num.J6 M C p0i p0o m1 t18 G = (bif t18 then some ([.c (.int .i64 0)], G) else guardK (!Nat.beq p0i 0) (((G.ld p0i (p0o + 1)).bind (Cell.asI .i64)).bind fun qx_3 => guardK (!Nat.beq p0i 0) ((G.sts p0i (p0o + 1) [.int .i64 (IntKind.i64.wrap (qx_3 + 1))]).bind fun qG_4 => guardK (!Nat.beq p0i 0) (((qG_4.ld p0i (p0o + 0)).bind (Cell.asS 1)).bind fun qs_5 => guardK (!Nat.beq p0i 0) (((qG_4.ld p0i (p0o + 1)).bind (Cell.asI .i64)).bind fun qx_6 => guardK (decide (0 ≤ IntKind.i64.wrap (qx_6 - 1) ∧ IntKind.i64.wrap (qx_6 - 1) < ((qs_5.2.2 : Nat) : Int))) (((qG_4.ld qs_5.1 (qs_5.2.1 + Int.toNat (IntKind.i64.wrap (qx_6 - 1)) * 1)).bind (Cell.asI .u8)).bind fun qx_7 => (binD .rem .i64 (IntKind.i64.wrap qx_7) m1).bind fun qx_8 => some ([.c (.int .i64 qx_8)], qG_4))))))) := (M.hj _ _ _).trans (by kernel_rfl)
def hodmanplay_Picks_Num.f (M : Mach) (C : Call) (p0i : Nat) (p0o : Nat) (m1 : Int) (G : GH) : Option Res := guardK (!Nat.beq p0i 0) (((G.ld p0i (p0o + 1)).bind (Cell.asI .i64)).bind fun qx_1 => guardK (!Nat.beq p0i 0) (((G.ld p0i (p0o + 0)).bind (Cell.asS 1)).bind fun qs_2 => bif decide (qx_1 ≥ ((qs_2.2.2 : Nat) : Int)) then hodmanplay_Picks_Num.J6 M C p0i p0o m1 true G else hodmanplay_Picks_Num.J6 M C p0i p0o m1 (decide (m1 < 1)) G))
theorem hodmanplay_Picks_Num.eq (M : Mach) (C : Call) (p0i : Nat) (p0o : Nat) (m1 : Int) (G : GH) : runF M C hodmanplay_Picks_Num.d [.c (.ptr p0i p0o), .c (.int .i64 m1)] G = hodmanplay_Picks_Num.f M C p0i p0o m1 G := by kernel_rfl

/- 62 hodman/calc.Log -/
def calc_Log.c6 : DCode := (.cond (.t 12) (.seq (.region [⟨0, some 2, .move (.k (.c (.int .i64 0))), none⟩,
    ⟨1, some 3, .move (.k (.c (.bool false))), none⟩]) .ret) .skip)
def calc_Log.c17 : DCode := (.seq (.seq (.region [⟨0, some 13, .move (.t 0), none⟩,
    ⟨1, some 14, .cmp .gtr .i64 (.t 13) (.k (.c (.int .i64 1))), none⟩]) (.cond (.t 14) .skip (.exit 0))) (.block 1 (.seq (.region [⟨0, some 15, .move (.t 0), none⟩,
    ⟨1, some 16, .bin .shr .i64 (.t 15) (.k (.c (.int .u64 1))), none⟩,
    ⟨2, some 0, .move (.t 16), none⟩]) (.region [⟨0, some 17, .move (.t 2), none⟩,
    ⟨1, some 18, .bin .add .i64 (.t 17) (.k (.c (.int .i64 1))), none⟩,
    ⟨2, some 2, .move (.t 18), none⟩]))))
def calc_Log.c22 : DCode := (.seq (.region [⟨0, some 19, .move (.t 2), none⟩,
    ⟨1, some 2, .move (.t 19), none⟩,
    ⟨2, some 3, .move (.k (.c (.bool true))), none⟩]) .ret)
def calc_Log.c23 : DCode := (.seq (.block 0 (.loop [0, 2] calc_Log.c17)) calc_Log.c22)
def calc_Log.d : DFn := { ntmps := 20, res := [.t 2, .t 3], body := (.seq (.region [⟨0, some 2, .move (.k (.c (.int .i64 0))), none⟩,
    ⟨1, some 3, .move (.k (.c (.bool false))), none⟩]) (.seq (.seq (.region [⟨0, some 4, .move (.t 0), none⟩,
    ⟨1, some 5, .cmp .lss .i64 (.t 4) (.k (.c (.int .i64 1))), none⟩,
    ⟨2, some 6, .move (.t 5), none⟩,
    ⟨3, some 7, .move (.t 0), some (6, false)⟩,
    ⟨4, some 8, .move (.t 0), some (6, false)⟩,
    ⟨5, some 9, .bin .sub .i64 (.t 8) (.k (.c (.int .i64 1))), some (6, false)⟩,
    ⟨6, some 10, .bin .and .i64 (.t 7) (.t 9), some (6, false)⟩,
    ⟨7, some 11, .cmp .neq .i64 (.t 10) (.k (.c (.int .i64 0))), some (6, false)⟩,
    ⟨8, some 12, .pick (.t 6) (.k (.c (.bool true))) (.t 11), none⟩]) (.cut [0, 2, 12] calc_Log.c6)) calc_Log.c23)) }
def calc_Log.k23 (M : Mach) (C : Call) : Kont := execC M.j C (M.ag C) calc_Log.c23 ({ exits := [], ret := retK calc_Log.d } : Env) (retK calc_Log.d)
def calc_Log.J6 (M : Mach) (C : Call) (v0 : Int) (n2 : Int) (t12 : Bool) (G : GH) : Option Res := M.j (execC M.j C (M.ag C) calc_Log.c6 ({ exits := [], ret := retK calc_Log.d } : Env) (calc_Log.k23 M C)) [.v (.c (.int .i64 v0)), .und, .v (.c (.int .i64 n2)), .und, .und, .und, .und, .und, .und, .und, .und, .und, .v (.c (.bool t12)), .und, .und, .und, .und, .und, .und, .und] G
def calc_Log.k22 (M : Mach) (C : Call) : Kont := execC M.j C (M.ag C) calc_Log.c22 ({ exits := [], ret := retK calc_Log.d } : Env) (retK calc_Log.d)
def calc_Log.e19 (M : Mach) (C : Call) : Env := { exits := (0, (calc_Log.k22 M C)) :: (({ exits := [], ret := retK calc_Log.d } : Env)).exits, ret := (({ exits := [], ret := retK calc_Log.d } : Env)).ret }
def calc_Log.L18 (M : Mach) (C : Call) (v0 : Int) (n2 : Int) (G : GH) : Option Res := M.ag C [0, 2] calc_Log.c17 (calc_Log.e19 M C) (calc_Log.k22 M C) [.v (.c (.int .i64 v0)), .und, .v (.c (.int .i64 n2)), .und, .und, .und, .und, .und, .und, .und, .und, .und, .und, .und, .und, .und, .und, .und, .und, .und] G
theorem calc_Log.J6_eq (M : Mach) (C : Call) (v0 : Int) (n2 : Int) (t12 : Bool) (G : GH) : calc_Log.J6 M C v0 n2 t12 G = (bif t12 then some ([.c (.int .i64 0), .c (.bool false)], G) else calc_Log.L18 M C v0 n2 G) := (M.hj _ _ _).trans (by kernel_rfl)
theorem calc_Log.L18_eq (M : Mach) (C : Call) (v0 : Int) (n2 : Int) (G : GH) : calc_Log.L18 M C v0 n2 G = (bif decide (v0 > 1) then calc_Log.L18 M C (Int.fdiv v0 (2 ^ (min (1 : Int).toNat IntKind.i64.bits))) (IntKind.i64.wrap (n2 + 1)) G else some ([.c (.int .i64 n2), .c (.bool true)], G)) := (M.hs _ _ _ _ _ _ _).trans (by kernel_rfl)
def calc_Log.f (M : Mach) (C : Call) (v0 : Int) (G : GH) : Option Res := bif decide (v0 < 1) then calc_Log.J6 M C v0 0 true G else calc_Log.J6 M C v0 0 (!decide (IntKind.i64.wrap (((BitVec.ofInt IntKind.i64.bits v0) &&& (BitVec.ofInt IntKind.i64.bits (IntKind.i64.wrap (v0 - 1)))).toNat : Int) = 0)) G
theorem calc_Log.eq (M : Mach) (C : Call) (v0 : Int) (G : GH) : runF M C calc_Log.d [.c (.int .i64 v0)] G = calc_Log.f M C v0 G := by kernel_rfl

/- 46 hodman/hodmanref1.Log -/
def hodmanref1_Log.c22 : DCode := (.region [⟨0, some 8, .move (.t 5), none⟩,
    ⟨1, some 9, .bin .add .i64 (.t 8) (.k (.c (.int .i64 1))), none⟩,
    ⟨2, some 5, .move (.t 9), none⟩])
def hodmanref1_Log.c24 : DCode := (.seq (.seq (.region [⟨0, some 6, .move (.t 5), none⟩,
    ⟨1, some 7, .cmp .lss .i64 (.t 6) (.k (.c (.int .i64 63))), none⟩]) (.cond (.t 7) .skip (.exit 0))) (.seq (.block 1 (.seq (.seq (.region [⟨0, some 10, .move (.t 4), none⟩,
    ⟨1, some 11, .move (.t 0), none⟩,
    ⟨2, some 12, .cmp .eql .i64 (.t 10) (.t 11), none⟩]) (.cond (.t 12) (.seq (.region [⟨0, some 13, .move (.t 5), none⟩,
    ⟨1, some 2, .move (.t 13), none⟩,
    ⟨2, some 3, .move (.k (.c (.bool true))), none⟩]) .ret) .skip)) (.seq (.region [⟨0, some 14, .move (.t 5), none⟩,
    ⟨1, some 15, .cmp .lss .i64 (.t 14) (.k (.c (.int .i64 62))), none⟩]) (.cond (.t 15) (.region [⟨0, some 16, .move (.t 4), none⟩,
    ⟨1, some 17, .bin .mul .i64 (.t 16) (.k (.c (.int .i64 2))), none⟩,
    ⟨2, some 4, .move (.t 17), none⟩]) .skip)))) (.cut [0, 4, 5] hodmanref1_Log.c22)))
def hodmanref1_Log.c25 : DCode := (.loop [0, 4, 5] hodmanref1_Log.c24)
def hodmanref1_Log.c30 : DCode := (.seq (.region [⟨0, some 2, .move (.k (.c (.int .i64 0))), none⟩,
    ⟨1, some 3, .move (.k (.c (.bool false))), none⟩]) .ret)
def hodmanref1_Log.d : DFn := { ntmps := 18, res := [.t 2, .t 3], body := (.seq (.region [⟨0, some 2, .move (.k (.c (.int .i64 0))), none⟩,
    ⟨1, some 3, .move (.k (.c (.bool false))), none⟩]) (.seq (.region [⟨0, some 4, .move (.k (.c (.int .i64 1))), none⟩]) (.seq (.seq (.region [⟨0, some 5, .move (.k (.c (.int .i64 0))), none⟩]) (.block 0 hodmanref1_Log.c25)) hodmanref1_Log.c30))) }
def hodmanref1_Log.k30 (M : Mach) (C : Call) : Kont := execC M.j C (M.ag C) hodmanref1_Log.c30 ({ exits := [], ret := retK hodmanref1_Log.d } : Env) (retK hodmanref1_Log.d)
def hodmanref1_Log.e26 (M : Mach) (C : Call) : Env := { exits := (0, (hodmanref1_Log.k30 M C)) :: (({ exits := [], ret := retK hodmanref1_Log.d } : Env)).exits, ret := (({ exits := [], ret := retK hodmanref1_Log.d } : Env)).ret }
def hodmanref1_Log.L25 (M : Mach) (C : Call) (v0 : Int) (p4 : Int) (n5 : Int) (G : GH) : Option Res := M.ag C [0, 4, 5] hodmanref1_Log.c24 (hodmanref1_Log.e26 M C) (hodmanref1_Log.k30 M C) [.v (.c (.int .i64 v0)), .und, .und, .und, .v (.c (.int .i64 p4)), .v (.c (.int .i64 n5)), .und, .und, .und, .und, .und, .und, .und, .und, .und, .und, .und, .und] G
def hodmanref1_Log.k25 (M : Mach) (C : Call) : Kont := fun tm G => M.ag C [0, 4, 5] hodmanref1_Log.c24 (hodmanref1_Log.e26 M C) (hodmanref1_Log.k30 M C) (restr [0, 4, 5] 0 tm) G
def hodmanref1_Log.J22 (M : Mach) (C : Call) (v0 : Int) (p4 : Int) (n5 : Int) (G : GH) : Option Res := M.j (execC M.j C (M.ag C) hodmanref1_Log.c22 (hodmanref1_Log.e26 M C) (hodmanref1_Log.k25 M C)) [.v (.c (.int .i64 v0)), .und, .und, .und, .v (.c (.int .i64 p4)), .v (.c (.int .i64 n5)), .und, .und, .und, .und, .und, .und, .und, .und, .und, .und, .und, .und] G
theorem hodmanref1_Log.L25_eq (M : Mach) (C : Call) (v0 : Int) (p4 : Int) (n5 : Int) (G : GH) : hodmanref1_Log.L25 M C v0 p4 n5 G = (bif decide (n5 < 63) then bif decide (p4 = v0) then some ([.c (.int .i64 n5), .c (.bool true)], G) else bif decide (n5 < 62) then hodmanref1_Log.J22 M C v0 (IntKind.i64.wrap (p4 * 2)) n5 G else hodmanref1_Log.J22 M C v0 p4 n5 G else some ([.c (.int .i64 0), .c (.bool false)], G)) := (M.hs _ _ _ _ _ _ _).trans (by kernel_rfl)
theorem hodmanref1_Log.J22_eq (M : Mach) (C : Call) (v0 : Int) (p4 : Int) (n5 : Int) (G : GH) : hodmanref1_Log.J22 M C v0 p4 n5 G = (hodmanref1_Log.L25 M C v0 p4 (IntKind.i64.wrap (n5 + 1)) G) := (M.hj _ _ _).trans (by kernel_rfl)
def hodmanref1_Log.f (M : Mach) (C : Call) (v0 : Int) (G : GH) : Option Res := hodmanref1_Log.L25 M C v0 1 0 G
theorem hodmanref1_Log.eq (M : Mach) (C : Call) (v0 : Int) (G : GH) : runF M C hodmanref1_Log.d [.c (.int .i64 v0)] G = hodmanref1_Log.f M C v0 G := by kernel_rfl

/- 44 hodman/hodmanref1.Up -/
def hodmanref1_Up.c6 : DCode := (.cond (.t 10) (.seq (.region [⟨0, some 2, .move (.k (.c (.int .i64 0))), none⟩,
    ⟨1, some 3, .move (.k (.c (.bool false))), none⟩]) .ret) .skip)
def hodmanref1_Up.c16 : DCode := (.seq (.seq (.region [⟨0, some 11, .move (.t 4), none⟩,
    ⟨1, some 12, .move (.t 0), none⟩,
    ⟨2, some 13, .cmp .lss .i64 (.t 11) (.t 12), none⟩]) (.cond (.t 13) .skip (.exit 0))) (.block 1 (.region [⟨0, some 14, .move (.t 4), none⟩,
    ⟨1, some 15, .bin .mul .i64 (.t 14) (.k (.c (.int .i64 2))), none⟩,
    ⟨2, some 4, .move (.t 15), none⟩])))
def hodmanref1_Up.c21 : DCode := (.seq (.region [⟨0, some 16, .move (.t 4), none⟩,
    ⟨1, some 2, .move (.t 16), none⟩,
    ⟨2, some 3, .move (.k (.c (.bool true))), none⟩]) .ret)
def hodmanref1_Up.c23 : DCode := (.seq (.region [⟨0, some 4, .move (.k (.c (.int .i64 1))), none⟩]) (.seq (.block 0 (.loop [0, 4] hodmanref1_Up.c16)) hodmanref1_Up.c21))
def hodmanref1_Up.d : DFn := { ntmps := 17, res := [.t 2, .t 3], body := (.seq (.region [⟨0, some 2, .move (.k (.c (.int .i64 0))), none⟩,
    ⟨1, some 3, .move (.k (.c (.bool false))), none⟩]) (.seq (.seq (.region [⟨0, some 5, .move (.t 0), none⟩,
    ⟨1, some 6, .cmp .lss .i64 (.t 5) (.k (.c (.int .i64 1))), none⟩,
    ⟨2, some 7, .move (.t 6), none⟩,
    ⟨3, some 8, .move (.t 0), some (7, false)⟩,
    ⟨4, some 9, .cmp .gtr .i64 (.t 8) (.k (.c (.int .i64 4611686018427387904))), some (7, false)⟩,
    ⟨5, some 10, .pick (.t 7) (.k (.c (.bool true))) (.t 9), none⟩]) (.cut [0, 10] hodmanref1_Up.c6)) hodmanref1_Up.c23)) }
def hodmanref1_Up.k23 (M : Mach) (C : Call) : Kont := execC M.j C (M.ag C) hodmanref1_Up.c23 ({ exits := [], ret := retK hodmanref1_Up.d } : Env) (retK hodmanref1_Up.d)
def hodmanref1_Up.J6 (M : Mach) (C : Call) (v0 : Int) (t10 : Bool) (G : GH) : Option Res := M.j (execC M.j C (M.ag C) hodmanref1_Up.c6 ({ exits := [], ret := retK hodmanref1_Up.d } : Env) (hodmanref1_Up.k23 M C)) [.v (.c (.int .i64 v0)), .und, .und, .und, .und, .und, .und, .und, .und, .und, .v (.c (.bool t10)), .und, .und, .und, .und, .und, .und] G
def hodmanref1_Up.k21 (M : Mach) (C : Call) : Kont := execC M.j C (M.ag C) hodmanref1_Up.c21 ({ exits := [], ret := retK hodmanref1_Up.d } : Env) (retK hodmanref1_Up.d)
def hodmanref1_Up.e18 (M : Mach) (C : Call) : Env := { exits := (0, (hodmanref1_Up.k21 M C)) :: (({ exits := [], ret := retK hodmanref1_Up.d } : Env)).exits, ret := (({ exits := [], ret := retK hodmanref1_Up.d } : Env)).ret }
def hodmanref1_Up.L17 (M : Mach) (C : Call) (v0 : Int) (p4 : Int) (G : GH) : Option Res := M.ag C [0, 4] hodmanref1_Up.c16 (hodmanref1_Up.e18 M C) (hodmanref1_Up.k21 M C) [.v (.c (.int .i64 v0)), .und, .und, .und, .v (.c (.int .i64 p4)), .und, .und, .und, .und, .und, .und, .und, .und, .und, .und, .und, .und] G
theorem hodmanref1_Up.J6_eq (M : Mach) (C : Call) (v0 : Int) (t10 : Bool) (G : GH) : hodmanref1_Up.J6 M C v0 t10 G = (bif t10 then some ([.c (.int .i64 0), .c (.bool false)], G) else hodmanref1_Up.L17 M C v0 1 G) := (M.hj _ _ _).trans (by kernel_rfl)
theorem hodmanref1_Up.L17_eq (M : Mach) (C : Call) (v0 : Int) (p4 : Int) (G : GH) : hodmanref1_Up.L17 M C v0 p4 G = (bif decide (p4 < v0) then hodmanref1_Up.L17 M C v0 (IntKind.i64.wrap (p4 * 2)) G else some ([.c (.int .i64 p4), .c (.bool true)], G)) := (M.hs _ _ _ _ _ _ _).trans (by kernel_rfl)
def hodmanref1_Up.f (M : Mach) (C : Call) (v0 : Int) (G : GH) : Option Res := bif decide (v0 < 1) then hodmanref1_Up.J6 M C v0 true G else hodmanref1_Up.J6 M C v0 (decide (v0 > 4611686018427387904)) G
theorem hodmanref1_Up.eq (M : Mach) (C : Call) (v0 : Int) (G : GH) : runF M C hodmanref1_Up.d [.c (.int .i64 v0)] G = hodmanref1_Up.f M C v0 G := by kernel_rfl

/- 14 (*hodman/hodmanplay.Picks).Conf -/
def hodmanplay_Picks_Conf.d : DFn := { ntmps := 23, res := [.box 4 (some 8), .box 5 (some 6)], body := (.seq (.region [⟨0, some 4, .boxz 19 [] [.int .i64 0, .int .i64 0, .int .i64 0, .int .i64 0, .int .i64 0, .int .i64 0, .int .i64 0, .int .i64 0], none⟩,
    ⟨1, some 5, .boxz 20 [] [.int .i64 0, .int .i64 0, .int .i64 0, .int .i64 0, .int .i64 0, .int .i64 0], none⟩]) (.seq (.region [⟨0, some 9, .move (.t 0), none⟩,
    ⟨1, some 10, .move (.t 1), none⟩,
    ⟨2, some 11, .call 19 [.t 9, .t 10] [.agg [.int .i64, .int .i64, .int .i64, .int .i64, .int .i64, .int .i64]], none⟩,
    ⟨3, some 6, .boxz 21 [] [.int .i64 0, .int .i64 0, .int .i64 0, .int .i64 0, .int .i64 0, .int .i64 0], none⟩,
    ⟨4, none, .stL 6 21 (.t 11) 6, none⟩]) (.seq (.region [⟨0, some 13, .ldL 6 21 (.agg [.int .i64, .int .i64, .int .i64, .int .i64, .int .i64, .int .i64]), none⟩,
    ⟨1, some 14, .call 24 [.t 13] [.agg [.int .i64, .int .i64, .int .i64, .int .i64, .int .i64, .int .i64, .int .i64, .int .i64], .c (.int .i64)], none⟩,
    ⟨2, some 12, .move (.t 14), none⟩,
    ⟨3, some 15, .ext 12 0, none⟩,
    ⟨4, some 16, .ext 12 1, none⟩,
    ⟨5, some 7, .boxz 22 [] [.int .i64 0, .int .i64 0, .int .i64 0, .int .i64 0, .int .i64 0, .int .i64 0, .int .i64 0, .int .i64 0], none⟩,
    ⟨6, none, .stL 7 22 (.t 15) 8, none⟩,
    ⟨7, some 8, .move (.t 16), none⟩]) (.seq (.region [⟨0, some 17, .ldL 7 22 (.agg [.int .i64, .int .i64, .int .i64, .int .i64, .int .i64, .int .i64, .int .i64, .int .i64]), none⟩,
    ⟨1, some 18, .ldL 6 21 (.agg [.int .i64, .int .i64, .int .i64, .int .i64, .int .i64, .int .i64]), none⟩,
    ⟨2, none, .stL 4 19 (.t 17) 8, none⟩,
    ⟨3, none, .stL 5 20 (.t 18) 6, none⟩]) .ret)))) }
def hodmanplay_Picks_Conf.f (M : Mach) (C : Call) (p0i : Nat) (p0o : Nat) (budget1 : Bool) (G : GH) : Option Res := (C hodmanplay_Picks_Raw.id [.c (.ptr p0i p0o), .c (.bool budget1)] G).bind fun qr_1 => ((qr_1.1[0]?).bind V1.a?).bind fun qcs_2 => if qcs_2.length = 6 then (((qcs_2[0]?).bind (Cell.asI .i64)).bind fun qx_3 => ((qcs_2[1]?).bind (Cell.asI .i64)).bind fun qx_4 => ((qcs_2[2]?).bind (Cell.asI .i64)).bind fun qx_5 => ((qcs_2[3]?).bind (Cell.asI .i64)).bind fun qx_6 => ((qcs_2[4]?).bind (Cell.asI .i64)).bind fun qx_7 => ((qcs_2[5]?).bind (Cell.asI .i64)).bind fun qx_8 => (C hodmanref1_Of.id [.agg [.int .i64 qx_3, .int .i64 qx_4, .int .i64 qx_5, .int .i64 qx_6, .int .i64 qx_7, .int .i64 qx_8]] qr_1.2).bind fun qr_9 => ((qr_9.1[0]?).bind V1.a?).bind fun qcs_10 => if qcs_10.length = 8 then (((qcs_10[0]?).bind (Cell.asI .i64)).bind fun qx_11 => ((qcs_10[1]?).bind (Cell.asI .i64)).bind fun qx_12 => ((qcs_10[2]?).bind (Cell.asI .i64)).bind fun qx_13 => ((qcs_10[3]?).bind (Cell.asI .i64)).bind fun qx_14 => ((qcs_10[4]?).bind (Cell.asI .i64)).bind fun qx_15 => ((qcs_10[5]?).bind (Cell.asI .i64)).bind fun qx_16 => ((qcs_10[6]?).bind (Cell.asI .i64)).bind fun qx_17 => ((qcs_10[7]?).bind (Cell.asI .i64)).bind fun qx_18 => (((qr_9.1[1]?).bind V1.c?).bind (Cell.asI .i64)).bind fun qx_19 => some ([.agg [.int .i64 qx_11, .int .i64 qx_12, .int .i64 qx_13, .int .i64 qx_14, .int .i64 qx_15, .int .i64 qx_16, .int .i64 qx_17, .int .i64 qx_18], .agg [.int .i64 qx_3, .int .i64 qx_4, .int .i64 qx_5, .int .i64 qx_6, .int .i64 qx_7, .int .i64 qx_8]], qr_9.2)) else none) else none
theorem hodmanplay_Picks_Conf.eq (M : Mach) (C : Call) (p0i : Nat) (p0o : Nat) (budget1 : Bool) (G : GH) : runF M C hodmanplay_Picks_Conf.d [.c (.ptr p0i p0o), .c (.bool budget1)] G = hodmanplay_Picks_Conf.f M C p0i p0o budget1 G := by kernel_rfl

/- 61 hodman/hodmanref1.Add -/
def hodmanref1_Add.c6 : DCode := (.cond (.t 23) (.seq (.region [⟨0, some 4, .move (.k (.c (.int .i64 0))), none⟩,
    ⟨1, some 5, .move (.k (.c (.bool false))), none⟩]) .ret) .skip)
def hodmanref1_Add.c10 : DCode := (.seq (.region [⟨0, some 24, .move (.t 0), none⟩,
    ⟨1, some 25, .move (.t 1), none⟩,
    ⟨2, some 26, .bin .add .i64 (.t 24) (.t 25), none⟩,
    ⟨3, some 4, .move (.t 26), none⟩,
    ⟨4, some 5, .move (.k (.c (.bool true))), none⟩]) .ret)
def hodmanref1_Add.d : DFn := { ntmps := 27, res := [.t 4, .t 5], body := (.seq (.region [⟨0, some 4, .move (.k (.c (.int .i64 0))), none⟩,
    ⟨1, some 5, .move (.k (.c (.bool false))), none⟩]) (.seq (.seq (.region [⟨0, some 6, .move (.t 1), none⟩,
    ⟨1, some 7, .cmp .gtr .i64 (.t 6) (.k (.c (.int .i64 0))), none⟩,
    ⟨2, some 8, .move (.t 7), none⟩,
    ⟨3, some 9, .move (.t 0), some (8, true)⟩,
    ⟨4, some 10, .move (.t 1), some (8, true)⟩,
    ⟨5, some 11, .bin .sub .i64 (.k (.c (.int .i64 9223372036854775807))) (.t 10), some (8, true)⟩,
    ⟨6, some 12, .cmp .gtr .i64 (.t 9) (.t 11), some (8, true)⟩,
    ⟨7, some 13, .pick (.t 8) (.t 12) (.k (.c (.bool false))), none⟩,
    ⟨8, some 14, .move (.t 13), none⟩,
    ⟨9, some 15, .move (.t 1), some (14, false)⟩,
    ⟨10, some 16, .cmp .lss .i64 (.t 15) (.k (.c (.int .i64 0))), some (14, false)⟩,
    ⟨11, some 17, .move (.t 16), some (14, false)⟩,
    ⟨12, some 18, .move (.t 0), some (17, true)⟩,
    ⟨13, some 19, .move (.t 1), some (17, true)⟩,
    ⟨14, some 20, .bin .sub .i64 (.k (.c (.int .i64 (-9223372036854775808)))) (.t 19), some (17, true)⟩,
    ⟨15, some 21, .cmp .lss .i64 (.t 18) (.t 20), some (17, true)⟩,
    ⟨16, some 22, .pick (.t 17) (.t 21) (.k (.c (.bool false))), some (14, false)⟩,
    ⟨17, some 23, .pick (.t 14) (.k (.c (.bool true))) (.t 22), none⟩]) (.cut [0, 1, 23] hodmanref1_Add.c6)) hodmanref1_Add.c10)) }
def hodmanref1_Add.k10 (M : Mach) (C : Call) : Kont := execC M.j C (M.ag C) hodmanref1_Add.c10 ({ exits := [], ret := retK hodmanref1_Add.d } : Env) (retK hodmanref1_Add.d)
def hodmanref1_Add.J6 (M : Mach) (C : Call) (a0 : Int) (b1 : Int) (t23 : Bool) (G : GH) : Option Res := M.j (execC M.j C (M.ag C) hodmanref1_Add.c6 ({ exits := [], ret := retK hodmanref1_Add.d } : Env) (hodmanref1_Add.k10 M C)) [.v (.c (.int .i64 a0)), .v (.c (.int .i64 b1)), .und, .und, .und, .und, .und, .und, .und, .und, .und, .und, .und, .und, .und, .und, .und, .und, .und, .und, .und, .und, .und, .v (.c (.bool t23)), .und, .und, .und] G
theorem hodmanref1_Add.J6_eq (M : Mach) (C : Call) (a0 : Int) (b1 : Int) (t23 : Bool) (G : GH) : hodmanref1_Add.J6 M C a0 b1 t23 G = (bif t23 then some ([.c (.int .i64 0), .c (.bool false)], G) else some ([.c (.int .i64 (IntKind.i64.wrap (a0 + b1))), .c (.bool true)], G)) := (M.hj _ _ _).trans (by kernel_rfl)
def hodmanref1_Add.f (M : Mach) (C : Call) (a0 : Int) (b1 : Int) (G : GH) : Option Res := bif decide (b1 > 0) then bif decide (a0 > IntKind.i64.wrap (9223372036854775807 - b1)) then hodmanref1_Add.J6 M C a0 b1 true G else bif decide (b1 < 0) then hodmanref1_Add.J6 M C a0 b1 (decide (a0 < IntKind.i64.wrap ((-9223372036854775808) - b1))) G else hodmanref1_Add.J6 M C a0 b1 false G else bif decide (b1 < 0) then hodmanref1_Add.J6 M C a0 b1 (decide (a0 < IntKind.i64.wrap ((-9223372036854775808) - b1))) G else hodmanref1_Add.J6 M C a0 b1 false G
theorem hodmanref1_Add.eq (M : Mach) (C : Call) (a0 : Int) (b1 : Int) (G : GH) : runF M C hodmanref1_Add.d [.c (.int .i64 a0), .c (.int .i64 b1)] G = hodmanref1_Add.f M C a0 b1 G := by kernel_rfl

/- 22 hodman/hodmanref1.Ceil -/
def hodmanref1_Ceil.c6 : DCode := (.cond (.t 12) (.seq (.region [⟨0, some 4, .move (.k (.c (.int .i64 0))), none⟩]) .ret) .skip)
def hodmanref1_Ceil.c10 : DCode := (.seq (.region [⟨0, some 13, .faddr 2 2, none⟩,
    ⟨1, some 14, .ldL 13 21 (.c (.int .i64)), none⟩,
    ⟨2, some 15, .move (.t 1), none⟩,
    ⟨3, some 16, .faddr 2 2, none⟩,
    ⟨4, some 17, .ldL 16 21 (.c (.int .i64)), none⟩,
    ⟨5, some 18, .bin .quo .i64 (.t 17) (.k (.c (.int .i64 2))), none⟩,
    ⟨6, some 19, .bin .mul .i64 (.t 15) (.t 18), none⟩,
    ⟨7, some 20, .bin .add .i64 (.t 14) (.t 19), none⟩,
    ⟨8, some 4, .move (.t 20), none⟩]) .ret)
def hodmanref1_Ceil.d : DFn := { ntmps := 22, res := [.t 4], body := (.seq (.region [⟨0, some 2, .boxv 21 [9, 13, 16] (.t 0) 8, none⟩,
    ⟨1, some 4, .move (.k (.c (.int .i64 0))), none⟩]) (.seq (.seq (.region [⟨0, some 5, .move (.t 1), none⟩,
    ⟨1, some 6, .cmp .lss .i64 (.t 5) (.k (.c (.int .i64 0))), none⟩,
    ⟨2, some 7, .move (.t 6), none⟩,
    ⟨3, some 8, .move (.t 1), some (7, false)⟩,
    ⟨4, some 9, .faddr 2 3, some (7, false)⟩,
    ⟨5, some 10, .ldL 9 21 (.c (.int .i64)), some (7, false)⟩,
    ⟨6, some 11, .cmp .gtr .i64 (.t 8) (.t 10), some (7, false)⟩,
    ⟨7, some 12, .pick (.t 7) (.k (.c (.bool true))) (.t 11), none⟩]) (.cut [1, 2, 12, 21] hodmanref1_Ceil.c6)) hodmanref1_Ceil.c10)) }
def hodmanref1_Ceil.k10 (M : Mach) (C : Call) : Kont := execC M.j C (M.ag C) hodmanref1_Ceil.c10 ({ exits := [], ret := retK hodmanref1_Ceil.d } : Env) (retK hodmanref1_Ceil.d)
def hodmanref1_Ceil.J6 (M : Mach) (C : Call) (class1 : Int) (t12 : Bool) (c21_0 : Int) (c21_1 : Int) (c21_2 : Int) (c21_3 : Int) (c21_4 : Int) (c21_5 : Int) (c21_6 : Int) (c21_7 : Int) (G : GH) : Option Res := M.j (execC M.j C (M.ag C) hodmanref1_Ceil.c6 ({ exits := [], ret := retK hodmanref1_Ceil.d } : Env) (hodmanref1_Ceil.k10 M C)) [.und, .v (.c (.int .i64 class1)), .ref 21 0, .und, .und, .und, .und, .und, .und, .und, .und, .und, .v (.c (.bool t12)), .und, .und, .und, .und, .und, .und, .und, .und, .box [.int .i64 c21_0, .int .i64 c21_1, .int .i64 c21_2, .int .i64 c21_3, .int .i64 c21_4, .int .i64 c21_5, .int .i64 c21_6, .int .i64 c21_7]] G
theorem hodmanref1_Ceil.J6_eq (M : Mach) (C : Call) (class1 : Int) (t12 : Bool) (c21_0 : Int) (c21_1 : Int) (c21_2 : Int) (c21_3 : Int) (c21_4 : Int) (c21_5 : Int) (c21_6 : Int) (c21_7 : Int) (G : GH) : hodmanref1_Ceil.J6 M C class1 t12 c21_0 c21_1 c21_2 c21_3 c21_4 c21_5 c21_6 c21_7 G = (bif t12 then some ([.c (.int .i64 0)], G) else some ([.c (.int .i64 (IntKind.i64.wrap (c21_2 + (IntKind.i64.wrap (class1 * (IntKind.i64.wrap (Int.tdiv c21_2 2)))))))], G)) := (M.hj _ _ _).trans (by kernel_rfl)
def hodmanref1_Ceil.f (M : Mach) (C : Call) (c0_0 : Int) (c0_1 : Int) (c0_2 : Int) (c0_3 : Int) (c0_4 : Int) (c0_5 : Int) (c0_6 : Int) (c0_7 : Int) (class1 : Int) (G : GH) : Option Res := bif decide (class1 < 0) then hodmanref1_Ceil.J6 M C class1 true c0_0 c0_1 c0_2 c0_3 c0_4 c0_5 c0_6 c0_7 G else hodmanref1_Ceil.J6 M C class1 (decide (class1 > c0_3)) c0_0 c0_1 c0_2 c0_3 c0_4 c0_5 c0_6 c0_7 G
theorem hodmanref1_Ceil.eq (M : Mach) (C : Call) (c0_0 : Int) (c0_1 : Int) (c0_2 : Int) (c0_3 : Int) (c0_4 : Int) (c0_5 : Int) (c0_6 : Int) (c0_7 : Int) (class1 : Int) (G : GH) : runF M C hodmanref1_Ceil.d [.agg [.int .i64 c0_0, .int .i64 c0_1, .int .i64 c0_2, .int .i64 c0_3, .int .i64 c0_4, .int .i64 c0_5, .int .i64 c0_6, .int .i64 c0_7], .c (.int .i64 class1)] G = hodmanref1_Ceil.f M C c0_0 c0_1 c0_2 c0_3 c0_4 c0_5 c0_6 c0_7 class1 G := by kernel_rfl

/- 45 hodman/hodmanref1.Round -/
def hodmanref1_Round.c6 : DCode := (.cond (.t 11) (.seq (.region [⟨0, some 4, .move (.k (.c (.int .i64 0))), none⟩,
    ⟨1, some 5, .move (.k (.c (.bool false))), none⟩]) .ret) .skip)
def hodmanref1_Round.c18 : DCode := (.seq (.seq (.region [⟨0, some 12, .move (.t 0), none⟩,
    ⟨1, some 13, .move (.t 1), none⟩,
    ⟨2, some 14, .bin .rem .i64 (.t 12) (.t 13), none⟩,
    ⟨3, some 15, .cmp .eql .i64 (.t 14) (.k (.c (.int .i64 0))), none⟩]) (.cond (.t 15) (.seq (.region [⟨0, some 16, .move (.t 0), none⟩,
    ⟨1, some 4, .move (.t 16), none⟩,
    ⟨2, some 5, .move (.k (.c (.bool true))), none⟩]) .ret) .skip)) (.seq (.region [⟨0, some 17, .move (.t 0), none⟩,
    ⟨1, some 18, .move (.t 0), none⟩,
    ⟨2, some 19, .move (.t 1), none⟩,
    ⟨3, some 20, .bin .rem .i64 (.t 18) (.t 19), none⟩,
    ⟨4, some 21, .bin .sub .i64 (.t 17) (.t 20), none⟩,
    ⟨5, some 22, .move (.t 1), none⟩,
    ⟨6, some 23, .call 61 [.t 21, .t 22] [.c (.int .i64), .c (.bool)], none⟩,
    ⟨7, some 24, .ext 23 0, none⟩,
    ⟨8, some 25, .ext 23 1, none⟩,
    ⟨9, some 4, .move (.t 24), none⟩,
    ⟨10, some 5, .move (.t 25), none⟩]) .ret))
def hodmanref1_Round.d : DFn := { ntmps := 26, res := [.t 4, .t 5], body := (.seq (.region [⟨0, some 4, .move (.k (.c (.int .i64 0))), none⟩,
    ⟨1, some 5, .move (.k (.c (.bool false))), none⟩]) (.seq (.seq (.region [⟨0, some 6, .move (.t 0), none⟩,
    ⟨1, some 7, .cmp .lss .i64 (.t 6) (.k (.c (.int .i64 0))), none⟩,
    ⟨2, some 8, .move (.t 7), none⟩,
    ⟨3, some 9, .move (.t 1), some (8, false)⟩,
    ⟨4, some 10, .cmp .lss .i64 (.t 9) (.k (.c (.int .i64 1))), some (8, false)⟩,
    ⟨5, some 11, .pick (.t 8) (.k (.c (.bool true))) (.t 10), none⟩]) (.cut [0, 1, 11] hodmanref1_Round.c6)) hodmanref1_Round.c18)) }
def hodmanref1_Round.k18 (M : Mach) (C : Call) : Kont := execC M.j C (M.ag C) hodmanref1_Round.c18 ({ exits := [], ret := retK hodmanref1_Round.d } : Env) (retK hodmanref1_Round.d)
def hodmanref1_Round.J6 (M : Mach) (C : Call) (v0 : Int) (to1 : Int) (t11 : Bool) (G : GH) : Option Res := M.j (execC M.j C (M.ag C) hodmanref1_Round.c6 ({ exits := [], ret := retK hodmanref1_Round.d } : Env) (hodmanref1_Round.k18 M C)) [.v (.c (.int .i64 v0)), .v (.c (.int .i64 to1)), .und, .und, .und, .und, .und, .und, .und, .und, .und, .v (.c (.bool t11)), .und, .und, .und, .und, .und, .und, .und, .und, .und, .und, .und, .und, .und, .und] G
theorem hodmanref1_Round.J6_eq (M : Mach) (C : Call) (v0 : Int) (to1 : Int) (t11 : Bool) (G : GH) : hodmanref1_Round.J6 M C v0 to1 t11 G = (bif t11 then some ([.c (.int .i64 0), .c (.bool false)], G) else (binD .rem .i64 v0 to1).bind fun qx_1 => bif decide (qx_1 = 0) then some ([.c (.int .i64 v0), .c (.bool true)], G) else (binD .rem .i64 v0 to1).bind fun qx_2 => (C hodmanref1_Add.id [.c (.int .i64 (IntKind.i64.wrap (v0 - qx_2))), .c (.int .i64 to1)] G).bind fun qr_3 => (((qr_3.1[0]?).bind V1.c?).bind (Cell.asI .i64)).bind fun qx_4 => (((qr_3.1[1]?).bind V1.c?).bind Cell.asB).bind fun qb_5 => some ([.c (.int .i64 qx_4), .c (.bool qb_5)], qr_3.2)) := (M.hj _ _ _).trans (by kernel_rfl)
def hodmanref1_Round.f (M : Mach) (C : Call) (v0 : Int) (to1 : Int) (G : GH) : Option Res := bif decide (v0 < 0) then hodmanref1_Round.J6 M C v0 to1 true G else hodmanref1_Round.J6 M C v0 to1 (decide (to1 < 1)) G
theorem hodmanref1_Round.eq (M : Mach) (C : Call) (v0 : Int) (to1 : Int) (G : GH) : runF M C hodmanref1_Round.d [.c (.int .i64 v0), .c (.int .i64 to1)] G = hodmanref1_Round.f M C v0 to1 G := by kernel_rfl

/- 47 hodman/hodmanref8.Over -/
def hodmanref8_Over.d : DFn := { ntmps := 25, res := [.t 4], body := (.seq (.region [⟨0, some 2, .boxv 23 [5, 16, 18] (.t 0) 2, none⟩,
    ⟨1, some 3, .boxv 24 [7, 9, 14] (.t 1) 2, none⟩,
    ⟨2, some 4, .move (.k (.c (.bool false))), none⟩]) (.seq (.region [⟨0, some 5, .faddr 2 0, none⟩,
    ⟨1, some 6, .ldL 5 23 (.c (.int .i64)), none⟩,
    ⟨2, some 7, .faddr 3 0, none⟩,
    ⟨3, some 8, .ldL 7 24 (.c (.int .i64)), none⟩,
    ⟨4, some 9, .faddr 3 1, none⟩,
    ⟨5, some 10, .ldL 9 24 (.c (.int .i64)), none⟩,
    ⟨6, some 11, .bin .add .i64 (.t 8) (.t 10), none⟩,
    ⟨7, some 12, .cmp .lss .i64 (.t 6) (.t 11), none⟩,
    ⟨8, some 13, .move (.t 12), none⟩,
    ⟨9, some 14, .faddr 3 0, some (13, true)⟩,
    ⟨10, some 15, .ldL 14 24 (.c (.int .i64)), some (13, true)⟩,
    ⟨11, some 16, .faddr 2 0, some (13, true)⟩,
    ⟨12, some 17, .ldL 16 23 (.c (.int .i64)), some (13, true)⟩,
    ⟨13, some 18, .faddr 2 1, some (13, true)⟩,
    ⟨14, some 19, .ldL 18 23 (.c (.int .i64)), some (13, true)⟩,
    ⟨15, some 20, .bin .add .i64 (.t 17) (.t 19), some (13, true)⟩,
    ⟨16, some 21, .cmp .lss .i64 (.t 15) (.t 20), some (13, true)⟩,
    ⟨17, some 22, .pick (.t 13) (.t 21) (.k (.c (.bool false))), none⟩,
    ⟨18, some 4, .move (.t 22), none⟩]) .ret)) }
def hodmanref8_Over.f (M : Mach) (C : Call) (a0_0 : Int) (a0_1 : Int) (b1_0 : Int) (b1_1 : Int) (G : GH) : Option Res := bif decide (a0_0 < IntKind.i64.wrap (b1_0 + b1_1)) then some ([.c (.bool (decide (b1_0 < IntKind.i64.wrap (a0_0 + a0_1))))], G) else some ([.c (.bool false)], G)
theorem hodmanref8_Over.eq (M : Mach) (C : Call) (a0_0 : Int) (a0_1 : Int) (b1_0 : Int) (b1_1 : Int) (G : GH) : runF M C hodmanref8_Over.d [.agg [.int .i64 a0_0, .int .i64 a0_1], .agg [.int .i64 b1_0, .int .i64 b1_1]] G = hodmanref8_Over.f M C a0_0 a0_1 b1_0 b1_1 G := by kernel_rfl
end Go.Proofs.D
