/- Texts of the proof (T2); no condition. -/
import Derived.Test.YtdanddamihficaaSameAlla
import Derived.KernelRfl
set_option linter.unusedSimpArgs false
set_option linter.unusedVariables false
set_option linter.unusedVariables false
set_option maxRecDepth 100000
namespace Go.Proofs.D
open Go
/- 38 (*hodman/hodmanplay.Picks).Op -/
def hodmanplay_Picks_Op.d : DFn := { ntmps := 90, res := [.box 6 (some 6)], body := (.seq (.region [⟨0, some 4, .boxv 88 [] (.t 1) 8, none⟩,
    ⟨1, some 6, .boxz 89 [] [.int .i64 0, .int .i64 0, .int .i64 0, .int .i64 0, .int .i64 0, .int .u8 0], none⟩]) (.seq (.seq (.region [⟨0, some 8, .move (.t 0), none⟩,
    ⟨1, some 9, .call 28 [.t 8, .k (.c (.int .i64 20))] [.c (.int .i64)], none⟩,
    ⟨2, some 7, .move (.t 9), none⟩]) (.block 0 (.seq (.region [⟨0, some 11, .move (.t 7), none⟩,
    ⟨1, some 12, .cmp .lss .i64 (.t 11) (.k (.c (.int .i64 6))), none⟩,
    ⟨2, some 10, .move (.t 12), none⟩]) (.cond (.t 10) (.seq (.region [⟨0, some 13, .move (.t 0), none⟩,
    ⟨1, some 14, .ldL 4 88 (.agg [.int .i64, .int .i64, .int .i64, .int .i64, .int .i64, .int .i64, .int .i64, .int .i64]), none⟩,
    ⟨2, some 15, .call 54 [.t 13, .t 14] [.c (.int .i64)], none⟩,
    ⟨3, some 16, .build [.int .i64 0, .int .i64 0, .int .i64 0, .int .i64 0, .int .i64 0, .int .u8 0] [(0, 1, .k (.c (.int .i64 1))), (2, 1, .t 15)], none⟩,
    ⟨4, none, .stL 6 89 (.t 16) 6, none⟩]) .ret) (.seq (.region [⟨0, some 18, .move (.t 7), none⟩,
    ⟨1, some 19, .cmp .eql .i64 (.t 18) (.k (.c (.int .i64 6))), none⟩,
    ⟨2, some 17, .move (.t 19), none⟩]) (.cond (.t 17) (.seq (.region [⟨0, some 20, .move (.t 0), none⟩,
    ⟨1, some 21, .call 28 [.t 20, .k (.c (.int .i64 4))] [.c (.int .i64)], none⟩,
    ⟨2, some 22, .move (.t 0), none⟩,
    ⟨3, some 23, .ldL 4 88 (.agg [.int .i64, .int .i64, .int .i64, .int .i64, .int .i64, .int .i64, .int .i64, .int .i64]), none⟩,
    ⟨4, some 24, .call 54 [.t 22, .t 23] [.c (.int .i64)], none⟩,
    ⟨5, some 25, .build [.int .i64 0, .int .i64 0, .int .i64 0, .int .i64 0, .int .i64 0, .int .u8 0] [(0, 1, .k (.c (.int .i64 2))), (4, 1, .t 21), (2, 1, .t 24)], none⟩,
    ⟨6, none, .stL 6 89 (.t 25) 6, none⟩]) .ret) (.seq (.region [⟨0, some 27, .move (.t 7), none⟩,
    ⟨1, some 28, .cmp .eql .i64 (.t 27) (.k (.c (.int .i64 7))), none⟩,
    ⟨2, some 26, .move (.t 28), none⟩]) (.cond (.t 26) (.seq (.region [⟨0, some 29, .move (.t 0), none⟩,
    ⟨1, some 30, .ldL 4 88 (.agg [.int .i64, .int .i64, .int .i64, .int .i64, .int .i64, .int .i64, .int .i64, .int .i64]), none⟩,
    ⟨2, some 31, .call 54 [.t 29, .t 30] [.c (.int .i64)], none⟩,
    ⟨3, some 32, .bslice 7 1 [.int .i64 0, .int .i64 0, .int .i64 0, .int .i64 0, .int .i64 0, .int .i64 0, .int .i64 0] [(0, 1, .k (.c (.int .i64 1))), (1, 1, .k (.c (.int .i64 2))), (2, 1, .k (.c (.int .i64 4))), (3, 1, .k (.c (.int .i64 3))), (4, 1, .k (.c (.int .i64 0))), (5, 1, .k (.c (.int .i64 8))), (6, 1, .k (.c (.int .i64 16)))], none⟩,
    ⟨4, some 33, .move (.t 0), none⟩,
    ⟨5, some 34, .call 28 [.t 33, .k (.c (.int .i64 7))] [.c (.int .i64)], none⟩,
    ⟨6, some 35, .iaddr (.t 32) (.t 34) 1, none⟩,
    ⟨7, some 36, .ldG 35 (.c (.int .i64)), none⟩,
    ⟨8, some 37, .build [.int .i64 0, .int .i64 0, .int .i64 0, .int .i64 0, .int .i64 0, .int .u8 0] [(0, 1, .k (.c (.int .i64 3))), (2, 1, .t 31), (3, 1, .t 36)], none⟩,
    ⟨9, none, .stL 6 89 (.t 37) 6, none⟩]) .ret) (.seq (.region [⟨0, some 39, .move (.t 7), none⟩,
    ⟨1, some 40, .cmp .lss .i64 (.t 39) (.k (.c (.int .i64 11))), none⟩,
    ⟨2, some 38, .move (.t 40), none⟩]) (.cond (.t 38) (.seq (.region [⟨0, some 41, .move (.t 0), none⟩,
    ⟨1, some 42, .move (.t 2), none⟩,
    ⟨2, some 43, .call 55 [.t 41, .t 42] [.c (.int .i64)], none⟩,
    ⟨3, some 44, .move (.t 0), none⟩,
    ⟨4, some 45, .ldL 4 88 (.agg [.int .i64, .int .i64, .int .i64, .int .i64, .int .i64, .int .i64, .int .i64, .int .i64]), none⟩,
    ⟨5, some 46, .call 54 [.t 44, .t 45] [.c (.int .i64)], none⟩,
    ⟨6, some 47, .build [.int .i64 0, .int .i64 0, .int .i64 0, .int .i64 0, .int .i64 0, .int .u8 0] [(0, 1, .k (.c (.int .i64 4))), (1, 1, .t 43), (2, 1, .t 46)], none⟩,
    ⟨7, none, .stL 6 89 (.t 47) 6, none⟩]) .ret) (.seq (.region [⟨0, some 49, .move (.t 7), none⟩,
    ⟨1, some 50, .cmp .lss .i64 (.t 49) (.k (.c (.int .i64 14))), none⟩,
    ⟨2, some 48, .move (.t 50), none⟩]) (.cond (.t 48) (.seq (.region [⟨0, some 51, .move (.t 0), none⟩,
    ⟨1, some 52, .move (.t 2), none⟩,
    ⟨2, some 53, .call 55 [.t 51, .t 52] [.c (.int .i64)], none⟩,
    ⟨3, some 54, .build [.int .i64 0, .int .i64 0, .int .i64 0, .int .i64 0, .int .i64 0, .int .u8 0] [(0, 1, .k (.c (.int .i64 5))), (1, 1, .t 53)], none⟩,
    ⟨4, none, .stL 6 89 (.t 54) 6, none⟩]) .ret) (.seq (.region [⟨0, some 56, .move (.t 7), none⟩,
    ⟨1, some 57, .cmp .eql .i64 (.t 56) (.k (.c (.int .i64 14))), none⟩,
    ⟨2, some 55, .move (.t 57), none⟩]) (.cond (.t 55) (.seq (.region [⟨0, some 58, .move (.t 0), none⟩,
    ⟨1, some 59, .move (.t 2), none⟩,
    ⟨2, some 60, .call 55 [.t 58, .t 59] [.c (.int .i64)], none⟩,
    ⟨3, some 61, .build [.int .i64 0, .int .i64 0, .int .i64 0, .int .i64 0, .int .i64 0, .int .u8 0] [(0, 1, .k (.c (.int .i64 6))), (1, 1, .t 60)], none⟩,
    ⟨4, none, .stL 6 89 (.t 61) 6, none⟩]) .ret) (.seq (.region [⟨0, some 63, .move (.t 7), none⟩,
    ⟨1, some 64, .cmp .lss .i64 (.t 63) (.k (.c (.int .i64 17))), none⟩,
    ⟨2, some 62, .move (.t 64), none⟩]) (.cond (.t 62) (.seq (.region [⟨0, some 65, .move (.t 0), none⟩,
    ⟨1, some 66, .move (.t 2), none⟩,
    ⟨2, some 67, .call 55 [.t 65, .t 66] [.c (.int .i64)], none⟩,
    ⟨3, some 68, .move (.t 0), none⟩,
    ⟨4, some 69, .call 28 [.t 68, .k (.c (.int .i64 9))] [.c (.int .i64)], none⟩,
    ⟨5, some 70, .build [.int .i64 0, .int .i64 0, .int .i64 0, .int .i64 0, .int .i64 0, .int .u8 0] [(0, 1, .k (.c (.int .i64 7))), (1, 1, .t 67), (4, 1, .t 69)], none⟩,
    ⟨6, none, .stL 6 89 (.t 70) 6, none⟩]) .ret) (.seq (.region [⟨0, some 72, .move (.t 7), none⟩,
    ⟨1, some 73, .cmp .eql .i64 (.t 72) (.k (.c (.int .i64 17))), none⟩,
    ⟨2, some 71, .move (.t 73), none⟩]) (.cond (.t 71) (.seq (.region [⟨0, some 74, .build [.int .i64 0, .int .i64 0, .int .i64 0, .int .i64 0, .int .i64 0, .int .u8 0] [(0, 1, .k (.c (.int .i64 9)))], none⟩,
    ⟨1, none, .stL 6 89 (.t 74) 6, none⟩]) .ret) (.seq (.region [⟨0, some 76, .move (.t 7), none⟩,
    ⟨1, some 77, .cmp .eql .i64 (.t 76) (.k (.c (.int .i64 18))), none⟩,
    ⟨2, some 75, .move (.t 77), none⟩]) (.cond (.t 75) (.seq (.region [⟨0, some 78, .build [.int .i64 0, .int .i64 0, .int .i64 0, .int .i64 0, .int .i64 0, .int .u8 0] [(0, 1, .k (.c (.int .i64 10)))], none⟩,
    ⟨1, none, .stL 6 89 (.t 78) 6, none⟩]) .ret) .skip)))))))))))))))))))) (.seq (.region [⟨0, some 79, .move (.t 0), none⟩,
    ⟨1, some 80, .move (.t 2), none⟩,
    ⟨2, some 81, .call 55 [.t 79, .t 80] [.c (.int .i64)], none⟩,
    ⟨3, some 82, .move (.t 0), none⟩,
    ⟨4, some 83, .call 28 [.t 82, .k (.c (.int .i64 9))] [.c (.int .i64)], none⟩,
    ⟨5, some 84, .move (.t 0), none⟩,
    ⟨6, some 85, .call 28 [.t 84, .k (.c (.int .i64 256))] [.c (.int .i64)], none⟩,
    ⟨7, some 86, .conv .u8 (.t 85), none⟩,
    ⟨8, some 87, .build [.int .i64 0, .int .i64 0, .int .i64 0, .int .i64 0, .int .i64 0, .int .u8 0] [(0, 1, .k (.c (.int .i64 8))), (1, 1, .t 81), (4, 1, .t 83), (5, 1, .t 86)], none⟩,
    ⟨9, none, .stL 6 89 (.t 87) 6, none⟩]) .ret))) }
def hodmanplay_Picks_Op.f (M : Mach) (C : Call) (u1i u1o : Nat) (u2 u3 u4 u5 u6 u7 u8 u9 : Int) (u10i u10o u10n : Nat) (G : GH) : Option Res := (C hodmanplay_Picks_Num.id [.c (.ptr u1i u1o), .c (.int .i64 20)] G).bind fun q1 => (((q1.1[0]?).bind V1.c?).bind (Cell.asI .i64)).bind fun q2 => bif decide (q2 < 6) then (C hodmanplay_Picks_Size.id [.c (.ptr u1i u1o), .agg [.int .i64 u2, .int .i64 u3, .int .i64 u4, .int .i64 u5, .int .i64 u6, .int .i64 u7, .int .i64 u8, .int .i64 u9]] q1.2).bind fun q3 => (((q3.1[0]?).bind V1.c?).bind (Cell.asI .i64)).bind fun q4 => some ([.agg [.int .i64 1, .int .i64 0, .int .i64 q4, .int .i64 0, .int .i64 0, .int .u8 0]], q3.2) else bif decide (q2 = 6) then (C hodmanplay_Picks_Num.id [.c (.ptr u1i u1o), .c (.int .i64 4)] q1.2).bind fun q5 => (((q5.1[0]?).bind V1.c?).bind (Cell.asI .i64)).bind fun q6 => (C hodmanplay_Picks_Size.id [.c (.ptr u1i u1o), .agg [.int .i64 u2, .int .i64 u3, .int .i64 u4, .int .i64 u5, .int .i64 u6, .int .i64 u7, .int .i64 u8, .int .i64 u9]] q5.2).bind fun q7 => (((q7.1[0]?).bind V1.c?).bind (Cell.asI .i64)).bind fun q8 => some ([.agg [.int .i64 2, .int .i64 0, .int .i64 q8, .int .i64 0, .int .i64 q6, .int .u8 0]], q7.2) else bif decide (q2 = 7) then (C hodmanplay_Picks_Size.id [.c (.ptr u1i u1o), .agg [.int .i64 u2, .int .i64 u3, .int .i64 u4, .int .i64 u5, .int .i64 u6, .int .i64 u7, .int .i64 u8, .int .i64 u9]] q1.2).bind fun q9 => (((q9.1[0]?).bind V1.c?).bind (Cell.asI .i64)).bind fun q10 => let q11 := q9.2.alloc (.row [.int .i64 1, .int .i64 2, .int .i64 4, .int .i64 3, .int .i64 0, .int .i64 8, .int .i64 16] false); (C hodmanplay_Picks_Num.id [.c (.ptr u1i u1o), .c (.int .i64 7)] q11).bind fun q12 => (((q12.1[0]?).bind V1.c?).bind (Cell.asI .i64)).bind fun q13 => guardK (decide (0 ≤ q13 ∧ q13 < ((7 : Nat) : Int))) (((q12.2.ld q9.2.next (0 + Int.toNat q13 * 1)).bind (Cell.asI .i64)).bind fun q14 => some ([.agg [.int .i64 3, .int .i64 0, .int .i64 q10, .int .i64 q14, .int .i64 0, .int .u8 0]], q12.2)) else bif decide (q2 < 11) then (C hodmanplay_Picks_Block.id [.c (.ptr u1i u1o), .c (.sl 3 u10i u10o u10n)] q1.2).bind fun q15 => (((q15.1[0]?).bind V1.c?).bind (Cell.asI .i64)).bind fun q16 => (C hodmanplay_Picks_Size.id [.c (.ptr u1i u1o), .agg [.int .i64 u2, .int .i64 u3, .int .i64 u4, .int .i64 u5, .int .i64 u6, .int .i64 u7, .int .i64 u8, .int .i64 u9]] q15.2).bind fun q17 => (((q17.1[0]?).bind V1.c?).bind (Cell.asI .i64)).bind fun q18 => some ([.agg [.int .i64 4, .int .i64 q16, .int .i64 q18, .int .i64 0, .int .i64 0, .int .u8 0]], q17.2) else bif decide (q2 < 14) then (C hodmanplay_Picks_Block.id [.c (.ptr u1i u1o), .c (.sl 3 u10i u10o u10n)] q1.2).bind fun q19 => (((q19.1[0]?).bind V1.c?).bind (Cell.asI .i64)).bind fun q20 => some ([.agg [.int .i64 5, .int .i64 q20, .int .i64 0, .int .i64 0, .int .i64 0, .int .u8 0]], q19.2) else bif decide (q2 = 14) then (C hodmanplay_Picks_Block.id [.c (.ptr u1i u1o), .c (.sl 3 u10i u10o u10n)] q1.2).bind fun q21 => (((q21.1[0]?).bind V1.c?).bind (Cell.asI .i64)).bind fun q22 => some ([.agg [.int .i64 6, .int .i64 q22, .int .i64 0, .int .i64 0, .int .i64 0, .int .u8 0]], q21.2) else bif decide (q2 < 17) then (C hodmanplay_Picks_Block.id [.c (.ptr u1i u1o), .c (.sl 3 u10i u10o u10n)] q1.2).bind fun q23 => (((q23.1[0]?).bind V1.c?).bind (Cell.asI .i64)).bind fun q24 => (C hodmanplay_Picks_Num.id [.c (.ptr u1i u1o), .c (.int .i64 9)] q23.2).bind fun q25 => (((q25.1[0]?).bind V1.c?).bind (Cell.asI .i64)).bind fun q26 => some ([.agg [.int .i64 7, .int .i64 q24, .int .i64 0, .int .i64 0, .int .i64 q26, .int .u8 0]], q25.2) else bif decide (q2 = 17) then some ([.agg [.int .i64 9, .int .i64 0, .int .i64 0, .int .i64 0, .int .i64 0, .int .u8 0]], q1.2) else bif decide (q2 = 18) then some ([.agg [.int .i64 10, .int .i64 0, .int .i64 0, .int .i64 0, .int .i64 0, .int .u8 0]], q1.2) else (C hodmanplay_Picks_Block.id [.c (.ptr u1i u1o), .c (.sl 3 u10i u10o u10n)] q1.2).bind fun q27 => (((q27.1[0]?).bind V1.c?).bind (Cell.asI .i64)).bind fun q28 => (C hodmanplay_Picks_Num.id [.c (.ptr u1i u1o), .c (.int .i64 9)] q27.2).bind fun q29 => (((q29.1[0]?).bind V1.c?).bind (Cell.asI .i64)).bind fun q30 => (C hodmanplay_Picks_Num.id [.c (.ptr u1i u1o), .c (.int .i64 256)] q29.2).bind fun q31 => (((q31.1[0]?).bind V1.c?).bind (Cell.asI .i64)).bind fun q32 => some ([.agg [.int .i64 8, .int .i64 q28, .int .i64 0, .int .i64 0, .int .i64 q30, .int .u8 (IntKind.u8.wrap q32)]], q31.2)
theorem hodmanplay_Picks_Op.eq (M : Mach) (C : Call) (u1i u1o : Nat) (u2 u3 u4 u5 u6 u7 u8 u9 : Int) (u10i u10o u10n : Nat) (G : GH) : runF M C hodmanplay_Picks_Op.d [.c (.ptr u1i u1o), .agg [.int .i64 u2, .int .i64 u3, .int .i64 u4, .int .i64 u5, .int .i64 u6, .int .i64 u7, .int .i64 u8, .int .i64 u9], .c (.sl 3 u10i u10o u10n)] G = hodmanplay_Picks_Op.f M C u1i u1o u2 u3 u4 u5 u6 u7 u8 u9 u10i u10o u10n G := by kernel_rfl

/- 33 hodman/hodmanref8.Met -/
def hodmanref8_Met.c6 : DCode := (.cond (.t 19) (.seq (.region [⟨0, some 6, .move (.k (.c (.sl 1 0 0 0))), none⟩]) .ret) .skip)
def hodmanref8_Met.c23 : DCode := (.region [⟨0, some 34, .move (.t 9), none⟩,
    ⟨1, some 35, .bin .add .i64 (.t 34) (.k (.c (.int .i64 1))), none⟩,
    ⟨2, some 9, .move (.t 35), none⟩])
def hodmanref8_Met.c25 : DCode := (.seq (.seq (.region [⟨0, some 30, .move (.t 9), none⟩,
    ⟨1, some 31, .move (.t 2), none⟩,
    ⟨2, some 32, .len (.t 31), none⟩,
    ⟨3, some 33, .cmp .lss .i64 (.t 30) (.t 32), none⟩]) (.cond (.t 33) .skip (.exit 2))) (.seq (.block 3 (.region [⟨0, some 36, .move (.t 7), none⟩,
    ⟨1, some 37, .move (.t 8), none⟩,
    ⟨2, some 38, .move (.t 7), none⟩,
    ⟨3, some 39, .move (.t 8), none⟩,
    ⟨4, some 40, .iaddr (.t 38) (.t 39) 1, none⟩,
    ⟨5, some 41, .ldG 40 (.c (.bool)), none⟩,
    ⟨6, some 42, .move (.t 41), none⟩,
    ⟨7, some 43, .move (.t 8), some (42, false)⟩,
    ⟨8, some 44, .move (.t 0), some (42, false)⟩,
    ⟨9, some 45, .bin .mul .i64 (.t 43) (.t 44), some (42, false)⟩,
    ⟨10, some 46, .move (.t 0), some (42, false)⟩,
    ⟨11, some 47, .build [.int .i64 0, .int .i64 0] [(0, 1, .t 45), (1, 1, .t 46)], some (42, false)⟩,
    ⟨12, some 48, .move (.t 2), some (42, false)⟩,
    ⟨13, some 49, .move (.t 9), some (42, false)⟩,
    ⟨14, some 50, .iaddr (.t 48) (.t 49) 3, some (42, false)⟩,
    ⟨15, some 51, .faddr 50 0, some (42, false)⟩,
    ⟨16, some 52, .ldG 51 (.c (.int .i64)), some (42, false)⟩,
    ⟨17, some 53, .move (.t 2), some (42, false)⟩,
    ⟨18, some 54, .move (.t 9), some (42, false)⟩,
    ⟨19, some 55, .iaddr (.t 53) (.t 54) 3, some (42, false)⟩,
    ⟨20, some 56, .faddr 55 1, some (42, false)⟩,
    ⟨21, some 57, .ldG 56 (.c (.int .i64)), some (42, false)⟩,
    ⟨22, some 58, .build [.int .i64 0, .int .i64 0] [(0, 1, .t 52), (1, 1, .t 57)], some (42, false)⟩,
    ⟨23, some 59, .call 52 [.t 47, .t 58] [.c (.bool)], some (42, false)⟩,
    ⟨24, some 60, .pick (.t 42) (.k (.c (.bool true))) (.t 59), none⟩,
    ⟨25, some 61, .iaddr (.t 36) (.t 37) 1, none⟩,
    ⟨26, none, .stG 61 (.t 60) 1, none⟩])) (.cut [0, 2, 7, 8, 9] hodmanref8_Met.c23)))
def hodmanref8_Met.c26 : DCode := (.loop [0, 2, 7, 8, 9] hodmanref8_Met.c25)
def hodmanref8_Met.c30 : DCode := (.region [⟨0, some 28, .move (.t 8), none⟩,
    ⟨1, some 29, .bin .add .i64 (.t 28) (.k (.c (.int .i64 1))), none⟩,
    ⟨2, some 8, .move (.t 29), none⟩])
def hodmanref8_Met.c32 : DCode := (.seq (.seq (.region [⟨0, some 24, .move (.t 8), none⟩,
    ⟨1, some 25, .move (.t 7), none⟩,
    ⟨2, some 26, .len (.t 25), none⟩,
    ⟨3, some 27, .cmp .lss .i64 (.t 24) (.t 26), none⟩]) (.cond (.t 27) .skip (.exit 0))) (.seq (.block 1 (.seq (.region [⟨0, some 9, .move (.k (.c (.int .i64 0))), none⟩]) (.block 2 hodmanref8_Met.c26))) hodmanref8_Met.c30))
def hodmanref8_Met.c33 : DCode := (.loop [0, 2, 7, 8] hodmanref8_Met.c32)
def hodmanref8_Met.c38 : DCode := (.seq (.region [⟨0, some 62, .move (.t 7), none⟩,
    ⟨1, some 6, .move (.t 62), none⟩]) .ret)
def hodmanref8_Met.c40 : DCode := (.seq (.region [⟨0, some 20, .move (.t 1), none⟩,
    ⟨1, some 21, .move (.t 0), none⟩,
    ⟨2, some 22, .bin .quo .i64 (.t 20) (.t 21), none⟩,
    ⟨3, some 23, .mkslice (.t 22) 1 1 [.bool false], none⟩,
    ⟨4, some 7, .move (.t 23), none⟩]) (.seq (.seq (.region [⟨0, some 8, .move (.k (.c (.int .i64 0))), none⟩]) (.block 0 hodmanref8_Met.c33)) hodmanref8_Met.c38))
def hodmanref8_Met.d : DFn := { ntmps := 63, res := [.t 6], body := (.seq (.region [⟨0, some 6, .move (.k (.c (.sl 1 0 0 0))), none⟩]) (.seq (.seq (.region [⟨0, some 10, .move (.t 0), none⟩,
    ⟨1, some 11, .cmp .lss .i64 (.t 10) (.k (.c (.int .i64 1))), none⟩,
    ⟨2, some 12, .move (.t 11), none⟩,
    ⟨3, some 13, .move (.t 1), some (12, false)⟩,
    ⟨4, some 14, .cmp .lss .i64 (.t 13) (.k (.c (.int .i64 0))), some (12, false)⟩,
    ⟨5, some 15, .pick (.t 12) (.k (.c (.bool true))) (.t 14), none⟩,
    ⟨6, some 16, .move (.t 15), none⟩,
    ⟨7, some 17, .move (.t 1), some (16, false)⟩,
    ⟨8, some 18, .cmp .gtr .i64 (.t 17) (.k (.c (.int .i64 65536))), some (16, false)⟩,
    ⟨9, some 19, .pick (.t 16) (.k (.c (.bool true))) (.t 18), none⟩]) (.cut [0, 1, 2, 19] hodmanref8_Met.c6)) hodmanref8_Met.c40)) }
def hodmanref8_Met.k40 (M : Mach) (C : Call) : Kont := execC M.j C (M.ag C) hodmanref8_Met.c40 ({ exits := [], ret := retK hodmanref8_Met.d } : Env) (retK hodmanref8_Met.d)
def hodmanref8_Met.J6 (M : Mach) (C : Call) (u1 u2 : Int) (u3i u3o u3n : Nat) (u4 : Bool) (G : GH) : Option Res := M.j (execC M.j C (M.ag C) hodmanref8_Met.c6 ({ exits := [], ret := retK hodmanref8_Met.d } : Env) (hodmanref8_Met.k40 M C)) [.v (.c (.int .i64 u1)), .v (.c (.int .i64 u2)), .v (.c (.sl 3 u3i u3o u3n)), .und, .und, .und, .und, .und, .und, .und, .und, .und, .und, .und, .und, .und, .und, .und, .und, .v (.c (.bool u4)), .und, .und, .und, .und, .und, .und, .und, .und, .und, .und, .und, .und, .und, .und, .und, .und, .und, .und, .und, .und, .und, .und, .und, .und, .und, .und, .und, .und, .und, .und, .und, .und, .und, .und, .und, .und, .und, .und, .und, .und, .und, .und, .und] G
def hodmanref8_Met.k38 (M : Mach) (C : Call) : Kont := execC M.j C (M.ag C) hodmanref8_Met.c38 ({ exits := [], ret := retK hodmanref8_Met.d } : Env) (retK hodmanref8_Met.d)
def hodmanref8_Met.e34 (M : Mach) (C : Call) : Env := { exits := (0, (hodmanref8_Met.k38 M C)) :: (({ exits := [], ret := retK hodmanref8_Met.d } : Env)).exits, ret := (({ exits := [], ret := retK hodmanref8_Met.d } : Env)).ret }
def hodmanref8_Met.L33 (M : Mach) (C : Call) (u1 : Int) (u2i u2o u2n u3i u3o u3n : Nat) (u4 : Int) (G : GH) : Option Res := M.ag C [0, 2, 7, 8] hodmanref8_Met.c32 (hodmanref8_Met.e34 M C) (hodmanref8_Met.k38 M C) [.v (.c (.int .i64 u1)), .und, .v (.c (.sl 3 u2i u2o u2n)), .und, .und, .und, .und, .v (.c (.sl 1 u3i u3o u3n)), .v (.c (.int .i64 u4)), .und, .und, .und, .und, .und, .und, .und, .und, .und, .und, .und, .und, .und, .und, .und, .und, .und, .und, .und, .und, .und, .und, .und, .und, .und, .und, .und, .und, .und, .und, .und, .und, .und, .und, .und, .und, .und, .und, .und, .und, .und, .und, .und, .und, .und, .und, .und, .und, .und, .und, .und, .und, .und, .und] G
def hodmanref8_Met.k33 (M : Mach) (C : Call) : Kont := fun tm G => M.ag C [0, 2, 7, 8] hodmanref8_Met.c32 (hodmanref8_Met.e34 M C) (hodmanref8_Met.k38 M C) (restr [0, 2, 7, 8] 0 tm) G
def hodmanref8_Met.k30 (M : Mach) (C : Call) : Kont := execC M.j C (M.ag C) hodmanref8_Met.c30 (hodmanref8_Met.e34 M C) (hodmanref8_Met.k33 M C)
def hodmanref8_Met.e29 (M : Mach) (C : Call) : Env := { exits := (1, (hodmanref8_Met.k30 M C)) :: ((hodmanref8_Met.e34 M C)).exits, ret := ((hodmanref8_Met.e34 M C)).ret }
def hodmanref8_Met.e27 (M : Mach) (C : Call) : Env := { exits := (2, (hodmanref8_Met.k30 M C)) :: ((hodmanref8_Met.e29 M C)).exits, ret := ((hodmanref8_Met.e29 M C)).ret }
def hodmanref8_Met.L26 (M : Mach) (C : Call) (u1 : Int) (u2i u2o u2n u3i u3o u3n : Nat) (u4 u5 : Int) (G : GH) : Option Res := M.ag C [0, 2, 7, 8, 9] hodmanref8_Met.c25 (hodmanref8_Met.e27 M C) (hodmanref8_Met.k30 M C) [.v (.c (.int .i64 u1)), .und, .v (.c (.sl 3 u2i u2o u2n)), .und, .und, .und, .und, .v (.c (.sl 1 u3i u3o u3n)), .v (.c (.int .i64 u4)), .v (.c (.int .i64 u5)), .und, .und, .und, .und, .und, .und, .und, .und, .und, .und, .und, .und, .und, .und, .und, .und, .und, .und, .und, .und, .und, .und, .und, .und, .und, .und, .und, .und, .und, .und, .und, .und, .und, .und, .und, .und, .und, .und, .und, .und, .und, .und, .und, .und, .und, .und, .und, .und, .und, .und, .und, .und, .und] G
def hodmanref8_Met.k26 (M : Mach) (C : Call) : Kont := fun tm G => M.ag C [0, 2, 7, 8, 9] hodmanref8_Met.c25 (hodmanref8_Met.e27 M C) (hodmanref8_Met.k30 M C) (restr [0, 2, 7, 8, 9] 0 tm) G
def hodmanref8_Met.J23 (M : Mach) (C : Call) (u1 : Int) (u2i u2o u2n u3i u3o u3n : Nat) (u4 u5 : Int) (G : GH) : Option Res := M.j (execC M.j C (M.ag C) hodmanref8_Met.c23 (hodmanref8_Met.e27 M C) (hodmanref8_Met.k26 M C)) [.v (.c (.int .i64 u1)), .und, .v (.c (.sl 3 u2i u2o u2n)), .und, .und, .und, .und, .v (.c (.sl 1 u3i u3o u3n)), .v (.c (.int .i64 u4)), .v (.c (.int .i64 u5)), .und, .und, .und, .und, .und, .und, .und, .und, .und, .und, .und, .und, .und, .und, .und, .und, .und, .und, .und, .und, .und, .und, .und, .und, .und, .und, .und, .und, .und, .und, .und, .und, .und, .und, .und, .und, .und, .und, .und, .und, .und, .und, .und, .und, .und, .und, .und, .und, .und, .und, .und, .und, .und] G
theorem hodmanref8_Met.J6_eq (M : Mach) (C : Call) (u1 u2 : Int) (u3i u3o u3n : Nat) (u4 : Bool) (G : GH) : hodmanref8_Met.J6 M C u1 u2 u3i u3o u3n u4 G = (bif u4 then some ([.c (.sl 1 0 0 0)], G) else (binD .quo .i64 u2 u1).bind fun q1 => guardK (decide (0 ≤ q1 ∧ q1 ≤ (most : Int))) (let q2 := G.alloc (.row (reps (Int.toNat q1) [.bool false]) false); hodmanref8_Met.L33 M C u1 u3i u3o u3n G.next 0 (Int.toNat q1) 0 q2)) := (M.hj _ _ _).trans (by kernel_rfl)
theorem hodmanref8_Met.L33_eq (M : Mach) (C : Call) (u1 : Int) (u2i u2o u2n u3i u3o u3n : Nat) (u4 : Int) (G : GH) : hodmanref8_Met.L33 M C u1 u2i u2o u2n u3i u3o u3n u4 G = (bif decide (u4 < ((u3n : Nat) : Int)) then hodmanref8_Met.L26 M C u1 u2i u2o u2n u3i u3o u3n u4 0 G else some ([.c (.sl 1 u3i u3o u3n)], G)) := (M.hs _ _ _ _ _ _ _).trans (by kernel_rfl)
theorem hodmanref8_Met.L26_eq (M : Mach) (C : Call) (u1 : Int) (u2i u2o u2n u3i u3o u3n : Nat) (u4 u5 : Int) (G : GH) : hodmanref8_Met.L26 M C u1 u2i u2o u2n u3i u3o u3n u4 u5 G = (bif decide (u5 < ((u2n : Nat) : Int)) then guardK (decide (0 ≤ u4 ∧ u4 < ((u3n : Nat) : Int))) (((G.ld u3i (u3o + Int.toNat u4 * 1)).bind Cell.asB).bind fun q3 => bif q3 then guardK (decide (0 ≤ u4 ∧ u4 < ((u3n : Nat) : Int))) ((G.sts u3i (u3o + Int.toNat u4 * 1) [.bool true]).bind fun q4 => hodmanref8_Met.J23 M C u1 u2i u2o u2n u3i u3o u3n u4 u5 q4) else guardK (decide (0 ≤ u5 ∧ u5 < ((u2n : Nat) : Int))) (((G.ld u2i ((u2o + Int.toNat u5 * 3) + 0)).bind (Cell.asI .i64)).bind fun q5 => guardK (decide (0 ≤ u5 ∧ u5 < ((u2n : Nat) : Int))) (((G.ld u2i ((u2o + Int.toNat u5 * 3) + 1)).bind (Cell.asI .i64)).bind fun q6 => (C hodmanref8_Over.id [.agg [.int .i64 (IntKind.i64.wrap (u4 * u1)), .int .i64 u1], .agg [.int .i64 q5, .int .i64 q6]] G).bind fun q7 => (((q7.1[0]?).bind V1.c?).bind Cell.asB).bind fun q8 => guardK (decide (0 ≤ u4 ∧ u4 < ((u3n : Nat) : Int))) ((q7.2.sts u3i (u3o + Int.toNat u4 * 1) [.bool q8]).bind fun q9 => hodmanref8_Met.J23 M C u1 u2i u2o u2n u3i u3o u3n u4 u5 q9)))) else hodmanref8_Met.L33 M C u1 u2i u2o u2n u3i u3o u3n (IntKind.i64.wrap (u4 + 1)) G) := (M.hs _ _ _ _ _ _ _).trans (by kernel_rfl)
theorem hodmanref8_Met.J23_eq (M : Mach) (C : Call) (u1 : Int) (u2i u2o u2n u3i u3o u3n : Nat) (u4 u5 : Int) (G : GH) : hodmanref8_Met.J23 M C u1 u2i u2o u2n u3i u3o u3n u4 u5 G = (hodmanref8_Met.L26 M C u1 u2i u2o u2n u3i u3o u3n u4 (IntKind.i64.wrap (u5 + 1)) G) := (M.hj _ _ _).trans (by kernel_rfl)
def hodmanref8_Met.f (M : Mach) (C : Call) (u1 u2 : Int) (u3i u3o u3n : Nat) (G : GH) : Option Res := bif decide (u1 < 1) then hodmanref8_Met.J6 M C u1 u2 u3i u3o u3n true G else bif decide (u2 < 0) then hodmanref8_Met.J6 M C u1 u2 u3i u3o u3n true G else hodmanref8_Met.J6 M C u1 u2 u3i u3o u3n (decide (u2 > 65536)) G
theorem hodmanref8_Met.eq (M : Mach) (C : Call) (u1 u2 : Int) (u3i u3o u3n : Nat) (G : GH) : runF M C hodmanref8_Met.d [.c (.int .i64 u1), .c (.int .i64 u2), .c (.sl 3 u3i u3o u3n)] G = hodmanref8_Met.f M C u1 u2 u3i u3o u3n G := by kernel_rfl

/- 24 hodman/same.Plain -/
def same_Plain.c18 : DCode := (.cond (.t 36) (.region [⟨0, some 37, .move (.t 6), none⟩,
    ⟨1, some 38, .move (.t 7), none⟩,
    ⟨2, some 39, .ldL 9 50 (.agg [.int .i64, .int .i64, .int .i64, .int .i64, .int .i64, .int .u8]), none⟩,
    ⟨3, some 40, .move (.t 2), none⟩,
    ⟨4, some 41, .move (.t 8), none⟩,
    ⟨5, some 42, .iaddr (.t 40) (.t 41) 8, none⟩,
    ⟨6, some 43, .ldG 42 (.agg [.int .i64, .int .i64, .int .i64, .int .u8, .int .i64, .int .i64, .int .i64, .int .i64]), none⟩,
    ⟨7, some 44, .call 39 [.t 38, .t 39, .t 43] [.agg [.int .i64, .int .i64, .int .i64, .int .u8, .int .i64, .int .i64, .int .i64, .int .i64]], none⟩,
    ⟨8, some 45, .bslice 1 8 [.int .i64 0, .int .i64 0, .int .i64 0, .int .u8 0, .int .i64 0, .int .i64 0, .int .i64 0, .int .i64 0] [(0, 8, .t 44)], none⟩,
    ⟨9, some 46, .app (.t 37) (.t 45) 8 64, none⟩,
    ⟨10, some 6, .move (.t 46), none⟩]) .skip)
def same_Plain.c22 : DCode := (.region [⟨0, some 47, .bin .add .i64 (.t 21) (.k (.c (.int .i64 1))), none⟩,
    ⟨1, some 21, .move (.t 47), none⟩])
def same_Plain.c25 : DCode := (.seq (.region [⟨0, some 22, .cmp .lss .i64 (.t 21) (.t 20), none⟩]) (.seq (.cond (.t 22) .skip (.exit 0)) (.seq (.block 1 (.seq (.region [⟨0, some 23, .move (.t 21), none⟩,
    ⟨1, some 24, .iaddr (.t 19) (.t 21) 6, none⟩,
    ⟨2, some 25, .ldG 24 (.agg [.int .i64, .int .i64, .int .i64, .int .i64, .int .i64, .int .u8]), none⟩,
    ⟨3, some 9, .boxz 50 [33] [.int .i64 0, .int .i64 0, .int .i64 0, .int .i64 0, .int .i64 0, .int .u8 0], none⟩,
    ⟨4, some 8, .move (.t 23), none⟩,
    ⟨5, none, .stL 9 50 (.t 25) 6, none⟩]) (.seq (.region [⟨0, some 26, .move (.t 2), none⟩,
    ⟨1, some 27, .move (.t 8), none⟩,
    ⟨2, some 28, .iaddr (.t 26) (.t 27) 8, none⟩,
    ⟨3, some 29, .faddr 28 0, none⟩,
    ⟨4, some 30, .ldG 29 (.c (.int .i64)), none⟩,
    ⟨5, some 31, .cmp .eql .i64 (.t 30) (.k (.c (.int .i64 0))), none⟩,
    ⟨6, some 32, .move (.t 31), none⟩,
    ⟨7, some 33, .faddr 9 0, some (32, true)⟩,
    ⟨8, some 34, .ldL 33 50 (.c (.int .i64)), some (32, true)⟩,
    ⟨9, some 35, .cmp .neq .i64 (.t 34) (.k (.c (.int .i64 9))), some (32, true)⟩,
    ⟨10, some 36, .pick (.t 32) (.t 35) (.k (.c (.bool false))), none⟩]) (.cut [2, 6, 7, 8, 9, 19, 20, 21, 36, 50] same_Plain.c18)))) (.cut [2, 6, 7, 19, 20, 21] same_Plain.c22))))
def same_Plain.c26 : DCode := (.loop [2, 6, 7, 19, 20, 21] same_Plain.c25)
def same_Plain.c31 : DCode := (.seq (.region [⟨0, some 48, .move (.t 6), none⟩,
    ⟨1, some 6, .move (.t 48), none⟩]) .ret)
def same_Plain.d : DFn := { ntmps := 51, res := [.t 6], body := (.seq (.region [⟨0, some 3, .boxv 49 [] (.t 0) 8, none⟩,
    ⟨1, some 6, .move (.k (.c (.sl 8 0 0 0))), none⟩]) (.seq (.seq (.region [⟨0, some 10, .move (.t 1), none⟩,
    ⟨1, some 11, .len (.t 10), none⟩,
    ⟨2, some 12, .move (.t 2), none⟩,
    ⟨3, some 13, .len (.t 12), none⟩,
    ⟨4, some 14, .cmp .neq .i64 (.t 11) (.t 13), none⟩]) (.cond (.t 14) (.seq (.region [⟨0, some 6, .move (.k (.c (.sl 8 0 0 0))), none⟩]) .ret) .skip)) (.seq (.region [⟨0, some 15, .ldL 3 49 (.agg [.int .i64, .int .i64, .int .i64, .int .i64, .int .i64, .int .i64, .int .i64, .int .i64]), none⟩,
    ⟨1, some 16, .mkmap (.agg [.int .i64, .int .i64]), none⟩,
    ⟨2, some 17, .build [.int .i64 0, .int .i64 0, .int .i64 0, .int .i64 0, .int .i64 0, .int .i64 0, .int .i64 0, .int .i64 0, .map 0] [(0, 8, .t 15), (8, 1, .t 16)], none⟩,
    ⟨3, some 18, .newv (.t 17) 9, none⟩,
    ⟨4, some 7, .move (.t 18), none⟩]) (.seq (.seq (.region [⟨0, some 19, .move (.t 1), none⟩,
    ⟨1, some 20, .len (.t 19), none⟩,
    ⟨2, some 21, .move (.k (.c (.int .i64 0))), none⟩]) (.block 0 same_Plain.c26)) same_Plain.c31)))) }
def same_Plain.k31 (M : Mach) (C : Call) : Kont := execC M.j C (M.ag C) same_Plain.c31 ({ exits := [], ret := retK same_Plain.d } : Env) (retK same_Plain.d)
def same_Plain.e27 (M : Mach) (C : Call) : Env := { exits := (0, (same_Plain.k31 M C)) :: (({ exits := [], ret := retK same_Plain.d } : Env)).exits, ret := (({ exits := [], ret := retK same_Plain.d } : Env)).ret }
def same_Plain.L26 (M : Mach) (C : Call) (u1i u1o u1n u2i u2o u2n u3i u3o u4i u4o u4n : Nat) (u5 u6 : Int) (G : GH) : Option Res := M.ag C [2, 6, 7, 19, 20, 21] same_Plain.c25 (same_Plain.e27 M C) (same_Plain.k31 M C) [.und, .und, .v (.c (.sl 8 u1i u1o u1n)), .und, .und, .und, .v (.c (.sl 8 u2i u2o u2n)), .v (.c (.ptr u3i u3o)), .und, .und, .und, .und, .und, .und, .und, .und, .und, .und, .und, .v (.c (.sl 6 u4i u4o u4n)), .v (.c (.int .i64 u5)), .v (.c (.int .i64 u6)), .und, .und, .und, .und, .und, .und, .und, .und, .und, .und, .und, .und, .und, .und, .und, .und, .und, .und, .und, .und, .und, .und, .und, .und, .und, .und, .und, .und, .und] G
def same_Plain.k26 (M : Mach) (C : Call) : Kont := fun tm G => M.ag C [2, 6, 7, 19, 20, 21] same_Plain.c25 (same_Plain.e27 M C) (same_Plain.k31 M C) (restr [2, 6, 7, 19, 20, 21] 0 tm) G
def same_Plain.k22 (M : Mach) (C : Call) : Kont := execC M.j C (M.ag C) (.cut [2, 6, 7, 19, 20, 21] same_Plain.c22) (same_Plain.e27 M C) (same_Plain.k26 M C)
def same_Plain.e21 (M : Mach) (C : Call) : Env := { exits := (1, (same_Plain.k22 M C)) :: ((same_Plain.e27 M C)).exits, ret := ((same_Plain.e27 M C)).ret }
def same_Plain.J18 (M : Mach) (C : Call) (u1i u1o u1n u2i u2o u2n u3i u3o : Nat) (u4 : Int) (u5i u5o u5n : Nat) (u6 u7 : Int) (u8 : Bool) (u9 u10 u11 u12 u13 u14 : Int) (G : GH) : Option Res := M.j (execC M.j C (M.ag C) same_Plain.c18 (same_Plain.e21 M C) (same_Plain.k22 M C)) [.und, .und, .v (.c (.sl 8 u1i u1o u1n)), .und, .und, .und, .v (.c (.sl 8 u2i u2o u2n)), .v (.c (.ptr u3i u3o)), .v (.c (.int .i64 u4)), .ref 50 0, .und, .und, .und, .und, .und, .und, .und, .und, .und, .v (.c (.sl 6 u5i u5o u5n)), .v (.c (.int .i64 u6)), .v (.c (.int .i64 u7)), .und, .und, .und, .und, .und, .und, .und, .und, .und, .und, .und, .und, .und, .und, .v (.c (.bool u8)), .und, .und, .und, .und, .und, .und, .und, .und, .und, .und, .und, .und, .und, .box [.int .i64 u9, .int .i64 u10, .int .i64 u11, .int .i64 u12, .int .i64 u13, .int .u8 u14]] G
def same_Plain.J22 (M : Mach) (C : Call) (u1i u1o u1n u2i u2o u2n u3i u3o u4i u4o u4n : Nat) (u5 u6 : Int) (G : GH) : Option Res := M.j (execC M.j C (M.ag C) same_Plain.c22 (same_Plain.e27 M C) (same_Plain.k26 M C)) [.und, .und, .v (.c (.sl 8 u1i u1o u1n)), .und, .und, .und, .v (.c (.sl 8 u2i u2o u2n)), .v (.c (.ptr u3i u3o)), .und, .und, .und, .und, .und, .und, .und, .und, .und, .und, .und, .v (.c (.sl 6 u4i u4o u4n)), .v (.c (.int .i64 u5)), .v (.c (.int .i64 u6)), .und, .und, .und, .und, .und, .und, .und, .und, .und, .und, .und, .und, .und, .und, .und, .und, .und, .und, .und, .und, .und, .und, .und, .und, .und, .und, .und, .und, .und] G
theorem same_Plain.L26_eq (M : Mach) (C : Call) (u1i u1o u1n u2i u2o u2n u3i u3o u4i u4o u4n : Nat) (u5 u6 : Int) (G : GH) : same_Plain.L26 M C u1i u1o u1n u2i u2o u2n u3i u3o u4i u4o u4n u5 u6 G = (bif decide (u6 < u5) then guardK (decide (0 ≤ u6 ∧ u6 < ((u4n : Nat) : Int))) (((G.ld u4i ((u4o + Int.toNat u6 * 6) + 0)).bind (Cell.asI .i64)).bind fun q3 => ((G.ld u4i ((u4o + Int.toNat u6 * 6) + 1)).bind (Cell.asI .i64)).bind fun q4 => ((G.ld u4i ((u4o + Int.toNat u6 * 6) + 2)).bind (Cell.asI .i64)).bind fun q5 => ((G.ld u4i ((u4o + Int.toNat u6 * 6) + 3)).bind (Cell.asI .i64)).bind fun q6 => ((G.ld u4i ((u4o + Int.toNat u6 * 6) + 4)).bind (Cell.asI .i64)).bind fun q7 => ((G.ld u4i ((u4o + Int.toNat u6 * 6) + 5)).bind (Cell.asI .u8)).bind fun q8 => guardK (decide (0 ≤ u6 ∧ u6 < ((u1n : Nat) : Int))) (((G.ld u1i ((u1o + Int.toNat u6 * 8) + 0)).bind (Cell.asI .i64)).bind fun q9 => bif decide (q9 = 0) then same_Plain.J18 M C u1i u1o u1n u2i u2o u2n u3i u3o u6 u4i u4o u4n u5 u6 (!decide (q3 = 9)) q3 q4 q5 q6 q7 q8 G else same_Plain.J18 M C u1i u1o u1n u2i u2o u2n u3i u3o u6 u4i u4o u4n u5 u6 false q3 q4 q5 q6 q7 q8 G)) else some ([.c (.sl 8 u2i u2o u2n)], G)) := (M.hs _ _ _ _ _ _ _).trans (by kernel_rfl)
theorem same_Plain.J18_eq (M : Mach) (C : Call) (u1i u1o u1n u2i u2o u2n u3i u3o : Nat) (u4 : Int) (u5i u5o u5n : Nat) (u6 u7 : Int) (u8 : Bool) (u9 u10 u11 u12 u13 u14 : Int) (G : GH) : same_Plain.J18 M C u1i u1o u1n u2i u2o u2n u3i u3o u4 u5i u5o u5n u6 u7 u8 u9 u10 u11 u12 u13 u14 G = (bif u8 then guardK (decide (0 ≤ u4 ∧ u4 < ((u1n : Nat) : Int))) (((G.ld u1i ((u1o + Int.toNat u4 * 8) + 0)).bind (Cell.asI .i64)).bind fun q10 => ((G.ld u1i ((u1o + Int.toNat u4 * 8) + 1)).bind (Cell.asI .i64)).bind fun q11 => ((G.ld u1i ((u1o + Int.toNat u4 * 8) + 2)).bind (Cell.asI .i64)).bind fun q12 => ((G.ld u1i ((u1o + Int.toNat u4 * 8) + 3)).bind (Cell.asI .u8)).bind fun q13 => ((G.ld u1i ((u1o + Int.toNat u4 * 8) + 4)).bind (Cell.asI .i64)).bind fun q14 => ((G.ld u1i ((u1o + Int.toNat u4 * 8) + 5)).bind (Cell.asI .i64)).bind fun q15 => ((G.ld u1i ((u1o + Int.toNat u4 * 8) + 6)).bind (Cell.asI .i64)).bind fun q16 => ((G.ld u1i ((u1o + Int.toNat u4 * 8) + 7)).bind (Cell.asI .i64)).bind fun q17 => (C same_reader_does.id [.c (.ptr u3i u3o), .agg [.int .i64 u9, .int .i64 u10, .int .i64 u11, .int .i64 u12, .int .i64 u13, .int .u8 u14], .agg [.int .i64 q10, .int .i64 q11, .int .i64 q12, .int .u8 q13, .int .i64 q14, .int .i64 q15, .int .i64 q16, .int .i64 q17]] G).bind fun q18 => ((q18.1[0]?).bind V1.a?).bind fun q19 => if q19.length = 8 then (((q19[0]?).bind (Cell.asI .i64)).bind fun q20 => ((q19[1]?).bind (Cell.asI .i64)).bind fun q21 => ((q19[2]?).bind (Cell.asI .i64)).bind fun q22 => ((q19[3]?).bind (Cell.asI .u8)).bind fun q23 => ((q19[4]?).bind (Cell.asI .i64)).bind fun q24 => ((q19[5]?).bind (Cell.asI .i64)).bind fun q25 => ((q19[6]?).bind (Cell.asI .i64)).bind fun q26 => ((q19[7]?).bind (Cell.asI .i64)).bind fun q27 => let q28 := q18.2.alloc (.row [.int .i64 q20, .int .i64 q21, .int .i64 q22, .int .u8 q23, .int .i64 q24, .int .i64 q25, .int .i64 q26, .int .i64 q27] false); (if 1 = 0 then some [] else q28.lds q18.2.next 0 (1 * 8)).bind fun q29 => guardK (decide (u2n + 1 ≤ most)) ((q28.app u2i u2o u2n 8 1 q29).bind fun q30 => same_Plain.J22 M C u1i u1o u1n q30.1 q30.2.1 (u2n + 1) u3i u3o u5i u5o u5n u6 u7 q30.2.2)) else none) else same_Plain.J22 M C u1i u1o u1n u2i u2o u2n u3i u3o u5i u5o u5n u6 u7 G) := (M.hj _ _ _).trans (by kernel_rfl)
theorem same_Plain.J22_eq (M : Mach) (C : Call) (u1i u1o u1n u2i u2o u2n u3i u3o u4i u4o u4n : Nat) (u5 u6 : Int) (G : GH) : same_Plain.J22 M C u1i u1o u1n u2i u2o u2n u3i u3o u4i u4o u4n u5 u6 G = (same_Plain.L26 M C u1i u1o u1n u2i u2o u2n u3i u3o u4i u4o u4n u5 (IntKind.i64.wrap (u6 + 1)) G) := (M.hj _ _ _).trans (by kernel_rfl)
def same_Plain.f (M : Mach) (C : Call) (u1 u2 u3 u4 u5 u6 u7 u8 : Int) (u9i u9o u9n u10i u10o u10n : Nat) (G : GH) : Option Res := bif (!decide (((u9n : Nat) : Int) = ((u10n : Nat) : Int))) then some ([.c (.sl 8 0 0 0)], G) else let q1 := G.alloc (.map (.agg [.int .i64, .int .i64]) []); let q2 := q1.alloc (.row [.int .i64 u1, .int .i64 u2, .int .i64 u3, .int .i64 u4, .int .i64 u5, .int .i64 u6, .int .i64 u7, .int .i64 u8, .map G.next] false); same_Plain.L26 M C u10i u10o u10n 0 0 0 q1.next 0 u9i u9o u9n ((u9n : Nat) : Int) 0 q2
theorem same_Plain.eq (M : Mach) (C : Call) (u1 u2 u3 u4 u5 u6 u7 u8 : Int) (u9i u9o u9n u10i u10o u10n : Nat) (G : GH) : runF M C same_Plain.d [.agg [.int .i64 u1, .int .i64 u2, .int .i64 u3, .int .i64 u4, .int .i64 u5, .int .i64 u6, .int .i64 u7, .int .i64 u8], .c (.sl 6 u9i u9o u9n), .c (.sl 8 u10i u10o u10n)] G = same_Plain.f M C u1 u2 u3 u4 u5 u6 u7 u8 u9i u9o u9n u10i u10o u10n G := by kernel_rfl

/- 20 hodman/hodmanlaw24.begun -/
def hodmanlaw24_begun.d : DFn := { ntmps := 75, res := [.t 0], body := (.seq (.region [⟨0, some 0, .move (.k (.c (.bool false))), none⟩]) (.seq (.region [⟨0, some 8, .build [.int .i64 0, .int .i64 0, .int .i64 0, .int .i64 0, .int .i64 0, .int .i64 0] [(0, 1, .k (.c (.int .i64 1))), (1, 1, .k (.c (.int .i64 4))), (2, 1, .k (.c (.int .i64 8))), (3, 1, .k (.c (.int .i64 4))), (4, 1, .k (.c (.int .i64 6)))], none⟩,
    ⟨1, some 9, .call 15 [.t 8] [.agg [.int .i64, .int .i64, .int .i64, .int .i64, .int .i64, .int .i64, .int .i64, .int .i64, .sl 3, .int .i64, .int .i64, .int .i64, .sl 1, .sl 1], .c (.int .i64)], none⟩,
    ⟨2, some 7, .move (.t 9), none⟩,
    ⟨3, some 10, .ext 7 0, none⟩,
    ⟨4, some 11, .ext 7 1, none⟩,
    ⟨5, some 1, .boxz 73 [26] [.int .i64 0, .int .i64 0, .int .i64 0, .int .i64 0, .int .i64 0, .int .i64 0, .int .i64 0, .int .i64 0, .sl 3 0 0 0, .int .i64 0, .int .i64 0, .int .i64 0, .sl 1 0 0 0, .sl 1 0 0 0], none⟩,
    ⟨6, none, .stL 1 73 (.t 10) 14, none⟩,
    ⟨7, some 2, .move (.t 11), none⟩]) (.seq (.region [⟨0, some 12, .build [.int .i64 0, .int .i64 0, .int .i64 0, .int .i64 0, .int .i64 0, .int .u8 0] [(0, 1, .k (.c (.int .i64 1))), (2, 1, .k (.c (.int .i64 3)))], none⟩,
    ⟨1, some 13, .build [.int .i64 0, .int .i64 0, .int .i64 0, .int .i64 0, .int .i64 0, .int .u8 0] [(0, 1, .k (.c (.int .i64 9)))], none⟩,
    ⟨2, some 14, .build [.int .i64 0, .int .i64 0, .int .i64 0, .int .i64 0, .int .i64 0, .int .u8 0] [(0, 1, .k (.c (.int .i64 7))), (1, 1, .k (.c (.int .i64 0))), (4, 1, .k (.c (.int .i64 1)))], none⟩,
    ⟨3, some 15, .build [.int .i64 0, .int .i64 0, .int .i64 0, .int .i64 0, .int .i64 0, .int .u8 0] [(0, 1, .k (.c (.int .i64 5))), (1, 1, .k (.c (.int .i64 5)))], none⟩,
    ⟨4, some 16, .build [.int .i64 0, .int .i64 0, .int .i64 0, .int .i64 0, .int .i64 0, .int .u8 0] [(0, 1, .k (.c (.int .i64 8))), (1, 1, .k (.c (.int .i64 0))), (4, 1, .k (.c (.int .i64 1))), (5, 1, .k (.c (.int .u8 9)))], none⟩,
    ⟨5, some 17, .build [.int .i64 0, .int .i64 0, .int .i64 0, .int .i64 0, .int .i64 0, .int .u8 0] [(0, 1, .k (.c (.int .i64 7))), (1, 1, .k (.c (.int .i64 0))), (4, 1, .k (.c (.int .i64 1)))], none⟩,
    ⟨6, some 18, .build [.int .i64 0, .int .i64 0, .int .i64 0, .int .i64 0, .int .i64 0, .int .u8 0] [(0, 1, .k (.c (.int .i64 10)))], none⟩,
    ⟨7, some 19, .bslice 7 6 [.int .i64 0, .int .i64 0, .int .i64 0, .int .i64 0, .int .i64 0, .int .u8 0, .int .i64 0, .int .i64 0, .int .i64 0, .int .i64 0, .int .i64 0, .int .u8 0, .int .i64 0, .int .i64 0, .int .i64 0, .int .i64 0, .int .i64 0, .int .u8 0, .int .i64 0, .int .i64 0, .int .i64 0, .int .i64 0, .int .i64 0, .int .u8 0, .int .i64 0, .int .i64 0, .int .i64 0, .int .i64 0, .int .i64 0, .int .u8 0, .int .i64 0, .int .i64 0, .int .i64 0, .int .i64 0, .int .i64 0, .int .u8 0, .int .i64 0, .int .i64 0, .int .i64 0, .int .i64 0, .int .i64 0, .int .u8 0] [(0, 6, .t 12), (6, 6, .t 13), (12, 6, .t 14), (18, 6, .t 15), (24, 6, .t 16), (30, 6, .t 17), (36, 6, .t 18)], none⟩,
    ⟨8, some 3, .move (.t 19), none⟩]) (.seq (.region [⟨0, some 21, .ldL 1 73 (.agg [.int .i64, .int .i64, .int .i64, .int .i64, .int .i64, .int .i64, .int .i64, .int .i64, .sl 3, .int .i64, .int .i64, .int .i64, .sl 1, .sl 1]), none⟩,
    ⟨1, some 22, .move (.t 3), none⟩,
    ⟨2, some 23, .call 22 [.t 21, .t 22] [.agg [.int .i64, .int .i64, .int .i64, .int .i64, .int .i64, .int .i64, .int .i64, .int .i64, .sl 3, .int .i64, .int .i64, .int .i64, .sl 1, .sl 1], .c (.sl 8)], none⟩,
    ⟨3, some 20, .move (.t 23), none⟩,
    ⟨4, some 24, .ext 20 0, none⟩,
    ⟨5, some 25, .ext 20 1, none⟩,
    ⟨6, some 4, .boxz 74 [] [.int .i64 0, .int .i64 0, .int .i64 0, .int .i64 0, .int .i64 0, .int .i64 0, .int .i64 0, .int .i64 0, .sl 3 0 0 0, .int .i64 0, .int .i64 0, .int .i64 0, .sl 1 0 0 0, .sl 1 0 0 0], none⟩,
    ⟨7, none, .stL 4 74 (.t 24) 14, none⟩,
    ⟨8, some 5, .move (.t 25), none⟩]) (.seq (.region [⟨0, some 26, .faddr 1 0, none⟩,
    ⟨1, some 27, .ldL 26 73 (.agg [.int .i64, .int .i64, .int .i64, .int .i64, .int .i64, .int .i64, .int .i64, .int .i64]), none⟩,
    ⟨2, some 28, .move (.t 3), none⟩,
    ⟨3, some 29, .move (.t 5), none⟩,
    ⟨4, some 30, .call 24 [.t 27, .t 28, .t 29] [.c (.sl 8)], none⟩,
    ⟨5, some 6, .move (.t 30), none⟩]) (.seq (.region [⟨0, some 31, .move (.t 6), none⟩,
    ⟨1, some 32, .len (.t 31), none⟩,
    ⟨2, some 33, .cmp .eql .i64 (.t 32) (.k (.c (.int .i64 5))), none⟩,
    ⟨3, some 34, .move (.t 33), none⟩,
    ⟨4, some 35, .move (.t 6), some (34, true)⟩,
    ⟨5, some 36, .iaddr (.t 35) (.k (.c (.int .i64 1))) 8, some (34, true)⟩,
    ⟨6, some 37, .faddr 36 3, some (34, true)⟩,
    ⟨7, some 38, .ldG 37 (.c (.int .u8)), some (34, true)⟩,
    ⟨8, some 39, .cmp .eql .u8 (.t 38) (.k (.c (.int .u8 0))), some (34, true)⟩,
    ⟨9, some 40, .pick (.t 34) (.t 39) (.k (.c (.bool false))), none⟩,
    ⟨10, some 41, .move (.t 40), none⟩,
    ⟨11, some 42, .move (.t 6), some (41, true)⟩,
    ⟨12, some 43, .iaddr (.t 42) (.k (.c (.int .i64 3))) 8, some (41, true)⟩,
    ⟨13, some 44, .faddr 43 3, some (41, true)⟩,
    ⟨14, some 45, .ldG 44 (.c (.int .u8)), some (41, true)⟩,
    ⟨15, some 46, .cmp .eql .u8 (.t 45) (.k (.c (.int .u8 9))), some (41, true)⟩,
    ⟨16, some 47, .pick (.t 41) (.t 46) (.k (.c (.bool false))), none⟩,
    ⟨17, some 48, .move (.t 47), none⟩,
    ⟨18, some 49, .move (.t 6), some (48, true)⟩,
    ⟨19, some 50, .iaddr (.t 49) (.k (.c (.int .i64 4))) 8, some (48, true)⟩,
    ⟨20, some 51, .faddr 50 4, some (48, true)⟩,
    ⟨21, some 52, .ldG 51 (.c (.int .i64)), some (48, true)⟩,
    ⟨22, some 53, .cmp .eql .i64 (.t 52) (.k (.c (.int .i64 4))), some (48, true)⟩,
    ⟨23, some 54, .pick (.t 48) (.t 53) (.k (.c (.bool false))), none⟩,
    ⟨24, some 55, .move (.t 54), none⟩,
    ⟨25, some 56, .move (.t 6), some (55, true)⟩,
    ⟨26, some 57, .iaddr (.t 56) (.k (.c (.int .i64 4))) 8, some (55, true)⟩,
    ⟨27, some 58, .faddr 57 7, some (55, true)⟩,
    ⟨28, some 59, .ldG 58 (.c (.int .i64)), some (55, true)⟩,
    ⟨29, some 60, .cmp .eql .i64 (.t 59) (.k (.c (.int .i64 0))), some (55, true)⟩,
    ⟨30, some 61, .pick (.t 55) (.t 60) (.k (.c (.bool false))), none⟩,
    ⟨31, some 62, .move (.t 61), none⟩,
    ⟨32, some 63, .move (.t 6), some (62, true)⟩,
    ⟨33, some 64, .move (.t 6), some (62, true)⟩,
    ⟨34, some 65, .call 26 [.t 63, .t 64] [.c (.bool)], some (62, true)⟩,
    ⟨35, some 66, .pick (.t 62) (.t 65) (.k (.c (.bool false))), none⟩,
    ⟨36, some 67, .move (.t 66), none⟩,
    ⟨37, some 68, .move (.t 6), some (67, true)⟩,
    ⟨38, some 69, .move (.t 5), some (67, true)⟩,
    ⟨39, some 70, .call 26 [.t 68, .t 69] [.c (.bool)], some (67, true)⟩,
    ⟨40, some 71, .not (.t 70), some (67, true)⟩,
    ⟨41, some 72, .pick (.t 67) (.t 71) (.k (.c (.bool false))), none⟩,
    ⟨42, some 0, .move (.t 72), none⟩]) .ret)))))) }
def hodmanlaw24_begun.f (M : Mach) (C : Call)  (G : GH) : Option Res := (C hodmanref17_New.id [.agg [.int .i64 1, .int .i64 4, .int .i64 8, .int .i64 4, .int .i64 6, .int .i64 0]] G).bind fun q1 => ((q1.1[0]?).bind V1.a?).bind fun q2 => if q2.length = 14 then (((q2[0]?).bind (Cell.asI .i64)).bind fun q3 => ((q2[1]?).bind (Cell.asI .i64)).bind fun q4 => ((q2[2]?).bind (Cell.asI .i64)).bind fun q5 => ((q2[3]?).bind (Cell.asI .i64)).bind fun q6 => ((q2[4]?).bind (Cell.asI .i64)).bind fun q7 => ((q2[5]?).bind (Cell.asI .i64)).bind fun q8 => ((q2[6]?).bind (Cell.asI .i64)).bind fun q9 => ((q2[7]?).bind (Cell.asI .i64)).bind fun q10 => ((q2[8]?).bind (Cell.asS 3)).bind fun q11 => ((q2[9]?).bind (Cell.asI .i64)).bind fun q12 => ((q2[10]?).bind (Cell.asI .i64)).bind fun q13 => ((q2[11]?).bind (Cell.asI .i64)).bind fun q14 => ((q2[12]?).bind (Cell.asS 1)).bind fun q15 => ((q2[13]?).bind (Cell.asS 1)).bind fun q16 => (((q1.1[1]?).bind V1.c?).bind (Cell.asI .i64)).bind fun q17 => let q18 := q1.2.alloc (.row [.int .i64 1, .int .i64 0, .int .i64 3, .int .i64 0, .int .i64 0, .int .u8 0, .int .i64 9, .int .i64 0, .int .i64 0, .int .i64 0, .int .i64 0, .int .u8 0, .int .i64 7, .int .i64 0, .int .i64 0, .int .i64 0, .int .i64 1, .int .u8 0, .int .i64 5, .int .i64 5, .int .i64 0, .int .i64 0, .int .i64 0, .int .u8 0, .int .i64 8, .int .i64 0, .int .i64 0, .int .i64 0, .int .i64 1, .int .u8 9, .int .i64 7, .int .i64 0, .int .i64 0, .int .i64 0, .int .i64 1, .int .u8 0, .int .i64 10, .int .i64 0, .int .i64 0, .int .i64 0, .int .i64 0, .int .u8 0] false); (C hodmanref17_All.id [.agg [.int .i64 q3, .int .i64 q4, .int .i64 q5, .int .i64 q6, .int .i64 q7, .int .i64 q8, .int .i64 q9, .int .i64 q10, .sl 3 q11.1 q11.2.1 q11.2.2, .int .i64 q12, .int .i64 q13, .int .i64 q14, .sl 1 q15.1 q15.2.1 q15.2.2, .sl 1 q16.1 q16.2.1 q16.2.2], .c (.sl 6 q1.2.next 0 7)] q18).bind fun q19 => ((q19.1[0]?).bind V1.a?).bind fun q20 => if q20.length = 14 then (((q20[0]?).bind (Cell.asI .i64)).bind fun q21 => ((q20[1]?).bind (Cell.asI .i64)).bind fun q22 => ((q20[2]?).bind (Cell.asI .i64)).bind fun q23 => ((q20[3]?).bind (Cell.asI .i64)).bind fun q24 => ((q20[4]?).bind (Cell.asI .i64)).bind fun q25 => ((q20[5]?).bind (Cell.asI .i64)).bind fun q26 => ((q20[6]?).bind (Cell.asI .i64)).bind fun q27 => ((q20[7]?).bind (Cell.asI .i64)).bind fun q28 => ((q20[8]?).bind (Cell.asS 3)).bind fun q29 => ((q20[9]?).bind (Cell.asI .i64)).bind fun q30 => ((q20[10]?).bind (Cell.asI .i64)).bind fun q31 => ((q20[11]?).bind (Cell.asI .i64)).bind fun q32 => ((q20[12]?).bind (Cell.asS 1)).bind fun q33 => ((q20[13]?).bind (Cell.asS 1)).bind fun q34 => (((q19.1[1]?).bind V1.c?).bind (Cell.asS 8)).bind fun q35 => (C same_Plain.id [.agg [.int .i64 q3, .int .i64 q4, .int .i64 q5, .int .i64 q6, .int .i64 q7, .int .i64 q8, .int .i64 q9, .int .i64 q10], .c (.sl 6 q1.2.next 0 7), .c (.sl 8 q35.1 q35.2.1 q35.2.2)] q19.2).bind fun q36 => (((q36.1[0]?).bind V1.c?).bind (Cell.asS 8)).bind fun q37 => bif decide (((q37.2.2 : Nat) : Int) = 5) then guardK (decide (0 ≤ (1 : Int) ∧ (1 : Int) < ((q37.2.2 : Nat) : Int))) (((q36.2.ld q37.1 ((q37.2.1 + Int.toNat 1 * 8) + 3)).bind (Cell.asI .u8)).bind fun q38 => bif decide (q38 = 0) then guardK (decide (0 ≤ (3 : Int) ∧ (3 : Int) < ((q37.2.2 : Nat) : Int))) (((q36.2.ld q37.1 ((q37.2.1 + Int.toNat 3 * 8) + 3)).bind (Cell.asI .u8)).bind fun q39 => bif decide (q39 = 9) then guardK (decide (0 ≤ (4 : Int) ∧ (4 : Int) < ((q37.2.2 : Nat) : Int))) (((q36.2.ld q37.1 ((q37.2.1 + Int.toNat 4 * 8) + 4)).bind (Cell.asI .i64)).bind fun q40 => bif decide (q40 = 4) then guardK (decide (0 ≤ (4 : Int) ∧ (4 : Int) < ((q37.2.2 : Nat) : Int))) (((q36.2.ld q37.1 ((q37.2.1 + Int.toNat 4 * 8) + 7)).bind (Cell.asI .i64)).bind fun q41 => bif decide (q41 = 0) then (C same_Same.id [.c (.sl 8 q37.1 q37.2.1 q37.2.2), .c (.sl 8 q37.1 q37.2.1 q37.2.2)] q36.2).bind fun q42 => (((q42.1[0]?).bind V1.c?).bind Cell.asB).bind fun q43 => bif q43 then (C same_Same.id [.c (.sl 8 q37.1 q37.2.1 q37.2.2), .c (.sl 8 q35.1 q35.2.1 q35.2.2)] q42.2).bind fun q44 => (((q44.1[0]?).bind V1.c?).bind Cell.asB).bind fun q45 => some ([.c (.bool (!q45))], q44.2) else some ([.c (.bool false)], q42.2) else some ([.c (.bool false)], q36.2)) else some ([.c (.bool false)], q36.2)) else some ([.c (.bool false)], q36.2)) else some ([.c (.bool false)], q36.2)) else some ([.c (.bool false)], q36.2)) else none) else none
theorem hodmanlaw24_begun.eq (M : Mach) (C : Call)  (G : GH) : runF M C hodmanlaw24_begun.d [] G = hodmanlaw24_begun.f M C  G := by kernel_rfl

/- 63 hodman/hodmanref17.Lowest -/
def hodmanref17_Lowest.c12 : DCode := (.cond (.t 26) .skip (.exit 2))
def hodmanref17_Lowest.c17 : DCode := (.seq (.block 3 (.region [⟨0, some 29, .move (.t 8), none⟩,
    ⟨1, some 30, .move (.t 2), none⟩,
    ⟨2, some 31, .build [.int .i64 0, .int .i64 0] [(0, 1, .t 29), (1, 1, .t 30)], none⟩,
    ⟨3, some 32, .move (.t 1), none⟩,
    ⟨4, some 33, .move (.t 10), none⟩,
    ⟨5, some 34, .iaddr (.t 32) (.t 33) 3, none⟩,
    ⟨6, some 35, .faddr 34 0, none⟩,
    ⟨7, some 36, .ldG 35 (.c (.int .i64)), none⟩,
    ⟨8, some 37, .move (.t 1), none⟩,
    ⟨9, some 38, .move (.t 10), none⟩,
    ⟨10, some 39, .iaddr (.t 37) (.t 38) 3, none⟩,
    ⟨11, some 40, .faddr 39 1, none⟩,
    ⟨12, some 41, .ldG 40 (.c (.int .i64)), none⟩,
    ⟨13, some 42, .build [.int .i64 0, .int .i64 0] [(0, 1, .t 36), (1, 1, .t 41)], none⟩,
    ⟨14, some 43, .call 52 [.t 31, .t 42] [.c (.bool)], none⟩,
    ⟨15, some 44, .not (.t 43), none⟩,
    ⟨16, some 9, .move (.t 44), none⟩])) (.region [⟨0, some 27, .move (.t 10), none⟩,
    ⟨1, some 28, .bin .add .i64 (.t 27) (.k (.c (.int .i64 1))), none⟩,
    ⟨2, some 10, .move (.t 28), none⟩]))
def hodmanref17_Lowest.c18 : DCode := (.seq (.seq (.region [⟨0, some 20, .move (.t 10), none⟩,
    ⟨1, some 21, .move (.t 1), none⟩,
    ⟨2, some 22, .len (.t 21), none⟩,
    ⟨3, some 23, .cmp .lss .i64 (.t 20) (.t 22), none⟩,
    ⟨4, some 24, .move (.t 23), none⟩,
    ⟨5, some 25, .move (.t 9), some (24, true)⟩,
    ⟨6, some 26, .pick (.t 24) (.t 25) (.k (.c (.bool false))), none⟩]) (.cut [1, 2, 3, 8, 9, 10, 26, 47] hodmanref17_Lowest.c12)) hodmanref17_Lowest.c17)
def hodmanref17_Lowest.c19 : DCode := (.loop [1, 2, 3, 8, 9, 10, 47] hodmanref17_Lowest.c18)
def hodmanref17_Lowest.c28 : DCode := (.seq (.region [⟨0, some 45, .move (.t 9), none⟩]) (.cond (.t 45) (.seq (.region [⟨0, some 46, .move (.t 8), none⟩,
    ⟨1, some 6, .move (.t 46), none⟩,
    ⟨2, some 7, .move (.k (.c (.bool true))), none⟩]) .ret) .skip))
def hodmanref17_Lowest.c32 : DCode := (.region [⟨0, some 17, .move (.t 8), none⟩,
    ⟨1, some 18, .move (.t 2), none⟩,
    ⟨2, some 19, .bin .add .i64 (.t 17) (.t 18), none⟩,
    ⟨3, some 8, .move (.t 19), none⟩])
def hodmanref17_Lowest.c34 : DCode := (.seq (.seq (.region [⟨0, some 11, .move (.t 8), none⟩,
    ⟨1, some 12, .move (.t 2), none⟩,
    ⟨2, some 13, .bin .add .i64 (.t 11) (.t 12), none⟩,
    ⟨3, some 14, .faddr 3 6, none⟩,
    ⟨4, some 15, .ldL 14 47 (.c (.int .i64)), none⟩,
    ⟨5, some 16, .cmp .leq .i64 (.t 13) (.t 15), none⟩]) (.cond (.t 16) .skip (.exit 0))) (.seq (.block 1 (.seq (.region [⟨0, some 9, .move (.k (.c (.bool true))), none⟩]) (.seq (.seq (.region [⟨0, some 10, .move (.k (.c (.int .i64 0))), none⟩]) (.block 2 hodmanref17_Lowest.c19)) hodmanref17_Lowest.c28))) hodmanref17_Lowest.c32))
def hodmanref17_Lowest.c35 : DCode := (.loop [1, 2, 3, 8, 47] hodmanref17_Lowest.c34)
def hodmanref17_Lowest.c40 : DCode := (.seq (.region [⟨0, some 6, .move (.k (.c (.int .i64 0))), none⟩,
    ⟨1, some 7, .move (.k (.c (.bool false))), none⟩]) .ret)
def hodmanref17_Lowest.d : DFn := { ntmps := 48, res := [.t 6, .t 7], body := (.seq (.region [⟨0, some 3, .boxv 47 [14] (.t 0) 8, none⟩,
    ⟨1, some 6, .move (.k (.c (.int .i64 0))), none⟩,
    ⟨2, some 7, .move (.k (.c (.bool false))), none⟩]) (.seq (.seq (.region [⟨0, some 8, .move (.k (.c (.int .i64 0))), none⟩]) (.block 0 hodmanref17_Lowest.c35)) hodmanref17_Lowest.c40)) }
def hodmanref17_Lowest.k40 (M : Mach) (C : Call) : Kont := execC M.j C (M.ag C) hodmanref17_Lowest.c40 ({ exits := [], ret := retK hodmanref17_Lowest.d } : Env) (retK hodmanref17_Lowest.d)
def hodmanref17_Lowest.e36 (M : Mach) (C : Call) : Env := { exits := (0, (hodmanref17_Lowest.k40 M C)) :: (({ exits := [], ret := retK hodmanref17_Lowest.d } : Env)).exits, ret := (({ exits := [], ret := retK hodmanref17_Lowest.d } : Env)).ret }
def hodmanref17_Lowest.L35 (M : Mach) (C : Call) (u1i u1o u1n : Nat) (u2 u3 u4 u5 u6 u7 u8 u9 u10 u11 : Int) (G : GH) : Option Res := M.ag C [1, 2, 3, 8, 47] hodmanref17_Lowest.c34 (hodmanref17_Lowest.e36 M C) (hodmanref17_Lowest.k40 M C) [.und, .v (.c (.sl 3 u1i u1o u1n)), .v (.c (.int .i64 u2)), .ref 47 0, .und, .und, .und, .und, .v (.c (.int .i64 u3)), .und, .und, .und, .und, .und, .und, .und, .und, .und, .und, .und, .und, .und, .und, .und, .und, .und, .und, .und, .und, .und, .und, .und, .und, .und, .und, .und, .und, .und, .und, .und, .und, .und, .und, .und, .und, .und, .und, .box [.int .i64 u4, .int .i64 u5, .int .i64 u6, .int .i64 u7, .int .i64 u8, .int .i64 u9, .int .i64 u10, .int .i64 u11]] G
def hodmanref17_Lowest.k35 (M : Mach) (C : Call) : Kont := fun tm G => M.ag C [1, 2, 3, 8, 47] hodmanref17_Lowest.c34 (hodmanref17_Lowest.e36 M C) (hodmanref17_Lowest.k40 M C) (restr [1, 2, 3, 8, 47] 0 tm) G
def hodmanref17_Lowest.k32 (M : Mach) (C : Call) : Kont := execC M.j C (M.ag C) hodmanref17_Lowest.c32 (hodmanref17_Lowest.e36 M C) (hodmanref17_Lowest.k35 M C)
def hodmanref17_Lowest.e31 (M : Mach) (C : Call) : Env := { exits := (1, (hodmanref17_Lowest.k32 M C)) :: ((hodmanref17_Lowest.e36 M C)).exits, ret := ((hodmanref17_Lowest.e36 M C)).ret }
def hodmanref17_Lowest.k28 (M : Mach) (C : Call) : Kont := execC M.j C (M.ag C) hodmanref17_Lowest.c28 (hodmanref17_Lowest.e31 M C) (hodmanref17_Lowest.k32 M C)
def hodmanref17_Lowest.e20 (M : Mach) (C : Call) : Env := { exits := (2, (hodmanref17_Lowest.k28 M C)) :: ((hodmanref17_Lowest.e31 M C)).exits, ret := ((hodmanref17_Lowest.e31 M C)).ret }
def hodmanref17_Lowest.L19 (M : Mach) (C : Call) (u1i u1o u1n : Nat) (u2 u3 : Int) (u4 : Bool) (u5 u6 u7 u8 u9 u10 u11 u12 u13 : Int) (G : GH) : Option Res := M.ag C [1, 2, 3, 8, 9, 10, 47] hodmanref17_Lowest.c18 (hodmanref17_Lowest.e20 M C) (hodmanref17_Lowest.k28 M C) [.und, .v (.c (.sl 3 u1i u1o u1n)), .v (.c (.int .i64 u2)), .ref 47 0, .und, .und, .und, .und, .v (.c (.int .i64 u3)), .v (.c (.bool u4)), .v (.c (.int .i64 u5)), .und, .und, .und, .und, .und, .und, .und, .und, .und, .und, .und, .und, .und, .und, .und, .und, .und, .und, .und, .und, .und, .und, .und, .und, .und, .und, .und, .und, .und, .und, .und, .und, .und, .und, .und, .und, .box [.int .i64 u6, .int .i64 u7, .int .i64 u8, .int .i64 u9, .int .i64 u10, .int .i64 u11, .int .i64 u12, .int .i64 u13]] G
def hodmanref17_Lowest.k19 (M : Mach) (C : Call) : Kont := fun tm G => M.ag C [1, 2, 3, 8, 9, 10, 47] hodmanref17_Lowest.c18 (hodmanref17_Lowest.e20 M C) (hodmanref17_Lowest.k28 M C) (restr [1, 2, 3, 8, 9, 10, 47] 0 tm) G
def hodmanref17_Lowest.k17 (M : Mach) (C : Call) : Kont := execC M.j C (M.ag C) hodmanref17_Lowest.c17 (hodmanref17_Lowest.e20 M C) (hodmanref17_Lowest.k19 M C)
def hodmanref17_Lowest.J12 (M : Mach) (C : Call) (u1i u1o u1n : Nat) (u2 u3 : Int) (u4 : Bool) (u5 : Int) (u6 : Bool) (u7 u8 u9 u10 u11 u12 u13 u14 : Int) (G : GH) : Option Res := M.j (execC M.j C (M.ag C) hodmanref17_Lowest.c12 (hodmanref17_Lowest.e20 M C) (hodmanref17_Lowest.k17 M C)) [.und, .v (.c (.sl 3 u1i u1o u1n)), .v (.c (.int .i64 u2)), .ref 47 0, .und, .und, .und, .und, .v (.c (.int .i64 u3)), .v (.c (.bool u4)), .v (.c (.int .i64 u5)), .und, .und, .und, .und, .und, .und, .und, .und, .und, .und, .und, .und, .und, .und, .und, .v (.c (.bool u6)), .und, .und, .und, .und, .und, .und, .und, .und, .und, .und, .und, .und, .und, .und, .und, .und, .und, .und, .und, .und, .box [.int .i64 u7, .int .i64 u8, .int .i64 u9, .int .i64 u10, .int .i64 u11, .int .i64 u12, .int .i64 u13, .int .i64 u14]] G
theorem hodmanref17_Lowest.L35_eq (M : Mach) (C : Call) (u1i u1o u1n : Nat) (u2 u3 u4 u5 u6 u7 u8 u9 u10 u11 : Int) (G : GH) : hodmanref17_Lowest.L35 M C u1i u1o u1n u2 u3 u4 u5 u6 u7 u8 u9 u10 u11 G = (bif decide (IntKind.i64.wrap (u3 + u2) ≤ u10) then hodmanref17_Lowest.L19 M C u1i u1o u1n u2 u3 true 0 u4 u5 u6 u7 u8 u9 u10 u11 G else some ([.c (.int .i64 0), .c (.bool false)], G)) := (M.hs _ _ _ _ _ _ _).trans (by kernel_rfl)
theorem hodmanref17_Lowest.L19_eq (M : Mach) (C : Call) (u1i u1o u1n : Nat) (u2 u3 : Int) (u4 : Bool) (u5 u6 u7 u8 u9 u10 u11 u12 u13 : Int) (G : GH) : hodmanref17_Lowest.L19 M C u1i u1o u1n u2 u3 u4 u5 u6 u7 u8 u9 u10 u11 u12 u13 G = (bif decide (u5 < ((u1n : Nat) : Int)) then hodmanref17_Lowest.J12 M C u1i u1o u1n u2 u3 u4 u5 u4 u6 u7 u8 u9 u10 u11 u12 u13 G else hodmanref17_Lowest.J12 M C u1i u1o u1n u2 u3 u4 u5 false u6 u7 u8 u9 u10 u11 u12 u13 G) := (M.hs _ _ _ _ _ _ _).trans (by kernel_rfl)
theorem hodmanref17_Lowest.J12_eq (M : Mach) (C : Call) (u1i u1o u1n : Nat) (u2 u3 : Int) (u4 : Bool) (u5 : Int) (u6 : Bool) (u7 u8 u9 u10 u11 u12 u13 u14 : Int) (G : GH) : hodmanref17_Lowest.J12 M C u1i u1o u1n u2 u3 u4 u5 u6 u7 u8 u9 u10 u11 u12 u13 u14 G = (bif u6 then guardK (decide (0 ≤ u5 ∧ u5 < ((u1n : Nat) : Int))) (((G.ld u1i ((u1o + Int.toNat u5 * 3) + 0)).bind (Cell.asI .i64)).bind fun q1 => guardK (decide (0 ≤ u5 ∧ u5 < ((u1n : Nat) : Int))) (((G.ld u1i ((u1o + Int.toNat u5 * 3) + 1)).bind (Cell.asI .i64)).bind fun q2 => (C hodmanref8_Over.id [.agg [.int .i64 u3, .int .i64 u2], .agg [.int .i64 q1, .int .i64 q2]] G).bind fun q3 => (((q3.1[0]?).bind V1.c?).bind Cell.asB).bind fun q4 => hodmanref17_Lowest.L19 M C u1i u1o u1n u2 u3 (!q4) (IntKind.i64.wrap (u5 + 1)) u7 u8 u9 u10 u11 u12 u13 u14 q3.2)) else bif u4 then some ([.c (.int .i64 u3), .c (.bool true)], G) else hodmanref17_Lowest.L35 M C u1i u1o u1n u2 (IntKind.i64.wrap (u3 + u2)) u7 u8 u9 u10 u11 u12 u13 u14 G) := (M.hj _ _ _).trans (by kernel_rfl)
def hodmanref17_Lowest.f (M : Mach) (C : Call) (u1 u2 u3 u4 u5 u6 u7 u8 : Int) (u9i u9o u9n : Nat) (u10 : Int) (G : GH) : Option Res := hodmanref17_Lowest.L35 M C u9i u9o u9n u10 0 u1 u2 u3 u4 u5 u6 u7 u8 G
theorem hodmanref17_Lowest.eq (M : Mach) (C : Call) (u1 u2 u3 u4 u5 u6 u7 u8 : Int) (u9i u9o u9n : Nat) (u10 : Int) (G : GH) : runF M C hodmanref17_Lowest.d [.agg [.int .i64 u1, .int .i64 u2, .int .i64 u3, .int .i64 u4, .int .i64 u5, .int .i64 u6, .int .i64 u7, .int .i64 u8], .c (.sl 3 u9i u9o u9n), .c (.int .i64 u10)] G = hodmanref17_Lowest.f M C u1 u2 u3 u4 u5 u6 u7 u8 u9i u9o u9n u10 G := by kernel_rfl

/- 67 hodman/hodmanref17.put -/
def hodmanref17_put.c12 : DCode := (.cond (.t 25) (.region [⟨0, some 26, .move (.t 5), none⟩,
    ⟨1, some 27, .ldL 3 44 (.agg [.int .i64, .int .i64, .int .i64]), none⟩,
    ⟨2, some 28, .bslice 1 3 [.int .i64 0, .int .i64 0, .int .i64 0] [(0, 3, .t 27)], none⟩,
    ⟨3, some 29, .app (.t 26) (.t 28) 3 24, none⟩,
    ⟨4, some 5, .move (.t 29), none⟩,
    ⟨5, some 6, .move (.k (.c (.bool true))), none⟩]) .skip)
def hodmanref17_put.c14 : DCode := (.region [⟨0, some 30, .move (.t 5), none⟩,
    ⟨1, some 31, .move (.t 0), none⟩,
    ⟨2, some 32, .move (.t 7), none⟩,
    ⟨3, some 33, .iaddr (.t 31) (.t 32) 3, none⟩,
    ⟨4, some 34, .ldG 33 (.agg [.int .i64, .int .i64, .int .i64]), none⟩,
    ⟨5, some 35, .bslice 1 3 [.int .i64 0, .int .i64 0, .int .i64 0] [(0, 3, .t 34)], none⟩,
    ⟨6, some 36, .app (.t 30) (.t 35) 3 24, none⟩,
    ⟨7, some 5, .move (.t 36), none⟩])
def hodmanref17_put.c17 : DCode := (.region [⟨0, some 12, .move (.t 7), none⟩,
    ⟨1, some 13, .bin .add .i64 (.t 12) (.k (.c (.int .i64 1))), none⟩,
    ⟨2, some 7, .move (.t 13), none⟩])
def hodmanref17_put.c19 : DCode := (.seq (.seq (.region [⟨0, some 8, .move (.t 7), none⟩,
    ⟨1, some 9, .move (.t 0), none⟩,
    ⟨2, some 10, .len (.t 9), none⟩,
    ⟨3, some 11, .cmp .lss .i64 (.t 8) (.t 10), none⟩]) (.cond (.t 11) .skip (.exit 0))) (.seq (.block 1 (.seq (.seq (.region [⟨0, some 14, .move (.t 6), none⟩,
    ⟨1, some 15, .not (.t 14), none⟩,
    ⟨2, some 16, .move (.t 15), none⟩,
    ⟨3, some 17, .move (.t 0), some (16, true)⟩,
    ⟨4, some 18, .move (.t 7), some (16, true)⟩,
    ⟨5, some 19, .iaddr (.t 17) (.t 18) 3, some (16, true)⟩,
    ⟨6, some 20, .faddr 19 0, some (16, true)⟩,
    ⟨7, some 21, .ldG 20 (.c (.int .i64)), some (16, true)⟩,
    ⟨8, some 22, .faddr 3 0, some (16, true)⟩,
    ⟨9, some 23, .ldL 22 44 (.c (.int .i64)), some (16, true)⟩,
    ⟨10, some 24, .cmp .gtr .i64 (.t 21) (.t 23), some (16, true)⟩,
    ⟨11, some 25, .pick (.t 16) (.t 24) (.k (.c (.bool false))), none⟩]) (.cut [0, 3, 5, 6, 7, 25, 44] hodmanref17_put.c12)) (.cut [0, 3, 5, 6, 7, 44] hodmanref17_put.c14))) hodmanref17_put.c17))
def hodmanref17_put.c20 : DCode := (.loop [0, 3, 5, 6, 7, 44] hodmanref17_put.c19)
def hodmanref17_put.c30 : DCode := (.seq (.region [⟨0, some 43, .move (.t 5), none⟩,
    ⟨1, some 4, .move (.t 43), none⟩]) .ret)
def hodmanref17_put.c31 : DCode := (.seq (.seq (.region [⟨0, some 37, .move (.t 6), none⟩,
    ⟨1, some 38, .not (.t 37), none⟩]) (.cond (.t 38) (.region [⟨0, some 39, .move (.t 5), none⟩,
    ⟨1, some 40, .ldL 3 44 (.agg [.int .i64, .int .i64, .int .i64]), none⟩,
    ⟨2, some 41, .bslice 1 3 [.int .i64 0, .int .i64 0, .int .i64 0] [(0, 3, .t 40)], none⟩,
    ⟨3, some 42, .app (.t 39) (.t 41) 3 24, none⟩,
    ⟨4, some 5, .move (.t 42), none⟩]) .skip)) (.cut [5] hodmanref17_put.c30))
def hodmanref17_put.d : DFn := { ntmps := 45, res := [.t 4], body := (.seq (.region [⟨0, some 3, .boxv 44 [22] (.t 1) 3, none⟩,
    ⟨1, some 4, .move (.k (.c (.sl 3 0 0 0))), none⟩]) (.seq (.region [⟨0, some 5, .move (.k (.c (.sl 3 0 0 0))), none⟩]) (.seq (.region [⟨0, some 6, .move (.k (.c (.bool false))), none⟩]) (.seq (.seq (.region [⟨0, some 7, .move (.k (.c (.int .i64 0))), none⟩]) (.block 0 hodmanref17_put.c20)) hodmanref17_put.c31)))) }
def hodmanref17_put.k31 (M : Mach) (C : Call) : Kont := execC M.j C (M.ag C) hodmanref17_put.c31 ({ exits := [], ret := retK hodmanref17_put.d } : Env) (retK hodmanref17_put.d)
def hodmanref17_put.e21 (M : Mach) (C : Call) : Env := { exits := (0, (hodmanref17_put.k31 M C)) :: (({ exits := [], ret := retK hodmanref17_put.d } : Env)).exits, ret := (({ exits := [], ret := retK hodmanref17_put.d } : Env)).ret }
def hodmanref17_put.L20 (M : Mach) (C : Call) (u1i u1o u1n u2i u2o u2n : Nat) (u3 : Bool) (u4 u5 u6 u7 : Int) (G : GH) : Option Res := M.ag C [0, 3, 5, 6, 7, 44] hodmanref17_put.c19 (hodmanref17_put.e21 M C) (hodmanref17_put.k31 M C) [.v (.c (.sl 3 u1i u1o u1n)), .und, .und, .ref 44 0, .und, .v (.c (.sl 3 u2i u2o u2n)), .v (.c (.bool u3)), .v (.c (.int .i64 u4)), .und, .und, .und, .und, .und, .und, .und, .und, .und, .und, .und, .und, .und, .und, .und, .und, .und, .und, .und, .und, .und, .und, .und, .und, .und, .und, .und, .und, .und, .und, .und, .und, .und, .und, .und, .und, .box [.int .i64 u5, .int .i64 u6, .int .i64 u7]] G
def hodmanref17_put.k20 (M : Mach) (C : Call) : Kont := fun tm G => M.ag C [0, 3, 5, 6, 7, 44] hodmanref17_put.c19 (hodmanref17_put.e21 M C) (hodmanref17_put.k31 M C) (restr [0, 3, 5, 6, 7, 44] 0 tm) G
def hodmanref17_put.k17 (M : Mach) (C : Call) : Kont := execC M.j C (M.ag C) hodmanref17_put.c17 (hodmanref17_put.e21 M C) (hodmanref17_put.k20 M C)
def hodmanref17_put.e16 (M : Mach) (C : Call) : Env := { exits := (1, (hodmanref17_put.k17 M C)) :: ((hodmanref17_put.e21 M C)).exits, ret := ((hodmanref17_put.e21 M C)).ret }
def hodmanref17_put.k14 (M : Mach) (C : Call) : Kont := execC M.j C (M.ag C) (.cut [0, 3, 5, 6, 7, 44] hodmanref17_put.c14) (hodmanref17_put.e16 M C) (hodmanref17_put.k17 M C)
def hodmanref17_put.J12 (M : Mach) (C : Call) (u1i u1o u1n u2i u2o u2n : Nat) (u3 : Bool) (u4 : Int) (u5 : Bool) (u6 u7 u8 : Int) (G : GH) : Option Res := M.j (execC M.j C (M.ag C) hodmanref17_put.c12 (hodmanref17_put.e16 M C) (hodmanref17_put.k14 M C)) [.v (.c (.sl 3 u1i u1o u1n)), .und, .und, .ref 44 0, .und, .v (.c (.sl 3 u2i u2o u2n)), .v (.c (.bool u3)), .v (.c (.int .i64 u4)), .und, .und, .und, .und, .und, .und, .und, .und, .und, .und, .und, .und, .und, .und, .und, .und, .und, .v (.c (.bool u5)), .und, .und, .und, .und, .und, .und, .und, .und, .und, .und, .und, .und, .und, .und, .und, .und, .und, .und, .box [.int .i64 u6, .int .i64 u7, .int .i64 u8]] G
def hodmanref17_put.J30 (M : Mach) (C : Call) (u1i u1o u1n : Nat) (G : GH) : Option Res := M.j (execC M.j C (M.ag C) hodmanref17_put.c30 ({ exits := [], ret := retK hodmanref17_put.d } : Env) (retK hodmanref17_put.d)) [.und, .und, .und, .und, .und, .v (.c (.sl 3 u1i u1o u1n)), .und, .und, .und, .und, .und, .und, .und, .und, .und, .und, .und, .und, .und, .und, .und, .und, .und, .und, .und, .und, .und, .und, .und, .und, .und, .und, .und, .und, .und, .und, .und, .und, .und, .und, .und, .und, .und, .und, .und] G
def hodmanref17_put.J14 (M : Mach) (C : Call) (u1i u1o u1n u2i u2o u2n : Nat) (u3 : Bool) (u4 u5 u6 u7 : Int) (G : GH) : Option Res := M.j (execC M.j C (M.ag C) hodmanref17_put.c14 (hodmanref17_put.e16 M C) (hodmanref17_put.k17 M C)) [.v (.c (.sl 3 u1i u1o u1n)), .und, .und, .ref 44 0, .und, .v (.c (.sl 3 u2i u2o u2n)), .v (.c (.bool u3)), .v (.c (.int .i64 u4)), .und, .und, .und, .und, .und, .und, .und, .und, .und, .und, .und, .und, .und, .und, .und, .und, .und, .und, .und, .und, .und, .und, .und, .und, .und, .und, .und, .und, .und, .und, .und, .und, .und, .und, .und, .und, .box [.int .i64 u5, .int .i64 u6, .int .i64 u7]] G
theorem hodmanref17_put.L20_eq (M : Mach) (C : Call) (u1i u1o u1n u2i u2o u2n : Nat) (u3 : Bool) (u4 u5 u6 u7 : Int) (G : GH) : hodmanref17_put.L20 M C u1i u1o u1n u2i u2o u2n u3 u4 u5 u6 u7 G = (bif decide (u4 < ((u1n : Nat) : Int)) then bif (!u3) then guardK (decide (0 ≤ u4 ∧ u4 < ((u1n : Nat) : Int))) (((G.ld u1i ((u1o + Int.toNat u4 * 3) + 0)).bind (Cell.asI .i64)).bind fun q1 => hodmanref17_put.J12 M C u1i u1o u1n u2i u2o u2n u3 u4 (decide (q1 > u5)) u5 u6 u7 G) else hodmanref17_put.J12 M C u1i u1o u1n u2i u2o u2n u3 u4 false u5 u6 u7 G else bif (!u3) then let q2 := G.alloc (.row [.int .i64 u5, .int .i64 u6, .int .i64 u7] false); (if 1 = 0 then some [] else q2.lds G.next 0 (1 * 3)).bind fun q3 => guardK (decide (u2n + 1 ≤ most)) ((q2.app u2i u2o u2n 3 1 q3).bind fun q4 => hodmanref17_put.J30 M C q4.1 q4.2.1 (u2n + 1) q4.2.2) else hodmanref17_put.J30 M C u2i u2o u2n G) := (M.hs _ _ _ _ _ _ _).trans (by kernel_rfl)
theorem hodmanref17_put.J12_eq (M : Mach) (C : Call) (u1i u1o u1n u2i u2o u2n : Nat) (u3 : Bool) (u4 : Int) (u5 : Bool) (u6 u7 u8 : Int) (G : GH) : hodmanref17_put.J12 M C u1i u1o u1n u2i u2o u2n u3 u4 u5 u6 u7 u8 G = (bif u5 then let q5 := G.alloc (.row [.int .i64 u6, .int .i64 u7, .int .i64 u8] false); (if 1 = 0 then some [] else q5.lds G.next 0 (1 * 3)).bind fun q6 => guardK (decide (u2n + 1 ≤ most)) ((q5.app u2i u2o u2n 3 1 q6).bind fun q7 => hodmanref17_put.J14 M C u1i u1o u1n q7.1 q7.2.1 (u2n + 1) true u4 u6 u7 u8 q7.2.2) else hodmanref17_put.J14 M C u1i u1o u1n u2i u2o u2n u3 u4 u6 u7 u8 G) := (M.hj _ _ _).trans (by kernel_rfl)
theorem hodmanref17_put.J30_eq (M : Mach) (C : Call) (u1i u1o u1n : Nat) (G : GH) : hodmanref17_put.J30 M C u1i u1o u1n G = (some ([.c (.sl 3 u1i u1o u1n)], G)) := (M.hj _ _ _).trans (by kernel_rfl)
theorem hodmanref17_put.J14_eq (M : Mach) (C : Call) (u1i u1o u1n u2i u2o u2n : Nat) (u3 : Bool) (u4 u5 u6 u7 : Int) (G : GH) : hodmanref17_put.J14 M C u1i u1o u1n u2i u2o u2n u3 u4 u5 u6 u7 G = (guardK (decide (0 ≤ u4 ∧ u4 < ((u1n : Nat) : Int))) (((G.ld u1i ((u1o + Int.toNat u4 * 3) + 0)).bind (Cell.asI .i64)).bind fun q8 => ((G.ld u1i ((u1o + Int.toNat u4 * 3) + 1)).bind (Cell.asI .i64)).bind fun q9 => ((G.ld u1i ((u1o + Int.toNat u4 * 3) + 2)).bind (Cell.asI .i64)).bind fun q10 => let q11 := G.alloc (.row [.int .i64 q8, .int .i64 q9, .int .i64 q10] false); (if 1 = 0 then some [] else q11.lds G.next 0 (1 * 3)).bind fun q12 => guardK (decide (u2n + 1 ≤ most)) ((q11.app u2i u2o u2n 3 1 q12).bind fun q13 => hodmanref17_put.L20 M C u1i u1o u1n q13.1 q13.2.1 (u2n + 1) u3 (IntKind.i64.wrap (u4 + 1)) u5 u6 u7 q13.2.2))) := (M.hj _ _ _).trans (by kernel_rfl)
def hodmanref17_put.f (M : Mach) (C : Call) (u1i u1o u1n : Nat) (u2 u3 u4 : Int) (G : GH) : Option Res := hodmanref17_put.L20 M C u1i u1o u1n 0 0 0 false 0 u2 u3 u4 G
theorem hodmanref17_put.eq (M : Mach) (C : Call) (u1i u1o u1n : Nat) (u2 u3 u4 : Int) (G : GH) : runF M C hodmanref17_put.d [.c (.sl 3 u1i u1o u1n), .agg [.int .i64 u2, .int .i64 u3, .int .i64 u4]] G = hodmanref17_put.f M C u1i u1o u1n u2 u3 u4 G := by kernel_rfl

/- 22 hodman/hodmanref17.All -/
def hodmanref17_All.c14 : DCode := (.seq (.seq (.region [⟨0, some 10, .move (.t 7), none⟩,
    ⟨1, some 11, .move (.t 1), none⟩,
    ⟨2, some 12, .len (.t 11), none⟩,
    ⟨3, some 13, .cmp .lss .i64 (.t 10) (.t 12), none⟩]) (.cond (.t 13) .skip (.exit 0))) (.seq (.block 1 (.seq (.region [⟨0, some 17, .ldL 2 32 (.agg [.int .i64, .int .i64, .int .i64, .int .i64, .int .i64, .int .i64, .int .i64, .int .i64, .sl 3, .int .i64, .int .i64, .int .i64, .sl 1, .sl 1]), none⟩,
    ⟨1, some 18, .move (.t 1), none⟩,
    ⟨2, some 19, .move (.t 7), none⟩,
    ⟨3, some 20, .iaddr (.t 18) (.t 19) 6, none⟩,
    ⟨4, some 21, .ldG 20 (.agg [.int .i64, .int .i64, .int .i64, .int .i64, .int .i64, .int .u8]), none⟩,
    ⟨5, some 22, .call 18 [.t 17, .t 21] [.agg [.int .i64, .int .i64, .int .i64, .int .i64, .int .i64, .int .i64, .int .i64, .int .i64, .sl 3, .int .i64, .int .i64, .int .i64, .sl 1, .sl 1], .agg [.int .i64, .int .i64, .int .i64, .int .u8, .int .i64, .int .i64, .int .i64, .int .i64]], none⟩,
    ⟨6, some 16, .move (.t 22), none⟩,
    ⟨7, some 23, .ext 16 0, none⟩,
    ⟨8, some 24, .ext 16 1, none⟩,
    ⟨9, some 8, .boxz 34 [] [.int .i64 0, .int .i64 0, .int .i64 0, .int .i64 0, .int .i64 0, .int .i64 0, .int .i64 0, .int .i64 0, .sl 3 0 0 0, .int .i64 0, .int .i64 0, .int .i64 0, .sl 1 0 0 0, .sl 1 0 0 0], none⟩,
    ⟨10, some 9, .boxz 35 [] [.int .i64 0, .int .i64 0, .int .i64 0, .int .u8 0, .int .i64 0, .int .i64 0, .int .i64 0, .int .i64 0], none⟩,
    ⟨11, none, .stL 8 34 (.t 23) 14, none⟩,
    ⟨12, none, .stL 9 35 (.t 24) 8, none⟩]) (.region [⟨0, some 25, .ldL 8 34 (.agg [.int .i64, .int .i64, .int .i64, .int .i64, .int .i64, .int .i64, .int .i64, .int .i64, .sl 3, .int .i64, .int .i64, .int .i64, .sl 1, .sl 1]), none⟩,
    ⟨1, some 26, .move (.t 6), none⟩,
    ⟨2, some 27, .ldL 9 35 (.agg [.int .i64, .int .i64, .int .i64, .int .u8, .int .i64, .int .i64, .int .i64, .int .i64]), none⟩,
    ⟨3, some 28, .bslice 1 8 [.int .i64 0, .int .i64 0, .int .i64 0, .int .u8 0, .int .i64 0, .int .i64 0, .int .i64 0, .int .i64 0] [(0, 8, .t 27)], none⟩,
    ⟨4, some 29, .app (.t 26) (.t 28) 8 64, none⟩,
    ⟨5, none, .stL 2 32 (.t 25) 14, none⟩,
    ⟨6, some 6, .move (.t 29), none⟩]))) (.region [⟨0, some 14, .move (.t 7), none⟩,
    ⟨1, some 15, .bin .add .i64 (.t 14) (.k (.c (.int .i64 1))), none⟩,
    ⟨2, some 7, .move (.t 15), none⟩])))
def hodmanref17_All.c20 : DCode := (.seq (.region [⟨0, some 30, .ldL 2 32 (.agg [.int .i64, .int .i64, .int .i64, .int .i64, .int .i64, .int .i64, .int .i64, .int .i64, .sl 3, .int .i64, .int .i64, .int .i64, .sl 1, .sl 1]), none⟩,
    ⟨1, some 31, .move (.t 6), none⟩,
    ⟨2, none, .stL 4 33 (.t 30) 14, none⟩,
    ⟨3, some 5, .move (.t 31), none⟩]) .ret)
def hodmanref17_All.d : DFn := { ntmps := 36, res := [.box 4 (some 14), .t 5], body := (.seq (.region [⟨0, some 2, .boxv 32 [] (.t 0) 14, none⟩,
    ⟨1, some 4, .boxz 33 [] [.int .i64 0, .int .i64 0, .int .i64 0, .int .i64 0, .int .i64 0, .int .i64 0, .int .i64 0, .int .i64 0, .sl 3 0 0 0, .int .i64 0, .int .i64 0, .int .i64 0, .sl 1 0 0 0, .sl 1 0 0 0], none⟩,
    ⟨2, some 5, .move (.k (.c (.sl 8 0 0 0))), none⟩]) (.seq (.region [⟨0, some 6, .move (.k (.c (.sl 8 0 0 0))), none⟩]) (.seq (.seq (.region [⟨0, some 7, .move (.k (.c (.int .i64 0))), none⟩]) (.block 0 (.loop [1, 2, 4, 6, 7, 32, 33] hodmanref17_All.c14))) hodmanref17_All.c20))) }
def hodmanref17_All.k20 (M : Mach) (C : Call) : Kont := execC M.j C (M.ag C) hodmanref17_All.c20 ({ exits := [], ret := retK hodmanref17_All.d } : Env) (retK hodmanref17_All.d)
def hodmanref17_All.e16 (M : Mach) (C : Call) : Env := { exits := (0, (hodmanref17_All.k20 M C)) :: (({ exits := [], ret := retK hodmanref17_All.d } : Env)).exits, ret := (({ exits := [], ret := retK hodmanref17_All.d } : Env)).ret }
def hodmanref17_All.L15 (M : Mach) (C : Call) (u1i u1o u1n u2i u2o u2n : Nat) (u3 u4 u5 u6 u7 u8 u9 u10 u11 : Int) (u12i u12o u12n : Nat) (u13 u14 u15 : Int) (u16i u16o u16n u17i u17o u17n : Nat) (u18 u19 u20 u21 u22 u23 u24 u25 : Int) (u26i u26o u26n : Nat) (u27 u28 u29 : Int) (u30i u30o u30n u31i u31o u31n : Nat) (G : GH) : Option Res := M.ag C [1, 2, 4, 6, 7, 32, 33] hodmanref17_All.c14 (hodmanref17_All.e16 M C) (hodmanref17_All.k20 M C) [.und, .v (.c (.sl 6 u1i u1o u1n)), .ref 32 0, .und, .ref 33 0, .und, .v (.c (.sl 8 u2i u2o u2n)), .v (.c (.int .i64 u3)), .und, .und, .und, .und, .und, .und, .und, .und, .und, .und, .und, .und, .und, .und, .und, .und, .und, .und, .und, .und, .und, .und, .und, .und, .box [.int .i64 u4, .int .i64 u5, .int .i64 u6, .int .i64 u7, .int .i64 u8, .int .i64 u9, .int .i64 u10, .int .i64 u11, .sl 3 u12i u12o u12n, .int .i64 u13, .int .i64 u14, .int .i64 u15, .sl 1 u16i u16o u16n, .sl 1 u17i u17o u17n], .box [.int .i64 u18, .int .i64 u19, .int .i64 u20, .int .i64 u21, .int .i64 u22, .int .i64 u23, .int .i64 u24, .int .i64 u25, .sl 3 u26i u26o u26n, .int .i64 u27, .int .i64 u28, .int .i64 u29, .sl 1 u30i u30o u30n, .sl 1 u31i u31o u31n], .und, .und] G
theorem hodmanref17_All.L15_eq (M : Mach) (C : Call) (u1i u1o u1n u2i u2o u2n : Nat) (u3 u4 u5 u6 u7 u8 u9 u10 u11 : Int) (u12i u12o u12n : Nat) (u13 u14 u15 : Int) (u16i u16o u16n u17i u17o u17n : Nat) (u18 u19 u20 u21 u22 u23 u24 u25 : Int) (u26i u26o u26n : Nat) (u27 u28 u29 : Int) (u30i u30o u30n u31i u31o u31n : Nat) (G : GH) : hodmanref17_All.L15 M C u1i u1o u1n u2i u2o u2n u3 u4 u5 u6 u7 u8 u9 u10 u11 u12i u12o u12n u13 u14 u15 u16i u16o u16n u17i u17o u17n u18 u19 u20 u21 u22 u23 u24 u25 u26i u26o u26n u27 u28 u29 u30i u30o u30n u31i u31o u31n G = (bif decide (u3 < ((u1n : Nat) : Int)) then guardK (decide (0 ≤ u3 ∧ u3 < ((u1n : Nat) : Int))) (((G.ld u1i ((u1o + Int.toNat u3 * 6) + 0)).bind (Cell.asI .i64)).bind fun q1 => ((G.ld u1i ((u1o + Int.toNat u3 * 6) + 1)).bind (Cell.asI .i64)).bind fun q2 => ((G.ld u1i ((u1o + Int.toNat u3 * 6) + 2)).bind (Cell.asI .i64)).bind fun q3 => ((G.ld u1i ((u1o + Int.toNat u3 * 6) + 3)).bind (Cell.asI .i64)).bind fun q4 => ((G.ld u1i ((u1o + Int.toNat u3 * 6) + 4)).bind (Cell.asI .i64)).bind fun q5 => ((G.ld u1i ((u1o + Int.toNat u3 * 6) + 5)).bind (Cell.asI .u8)).bind fun q6 => (C hodmanref17_Do.id [.agg [.int .i64 u4, .int .i64 u5, .int .i64 u6, .int .i64 u7, .int .i64 u8, .int .i64 u9, .int .i64 u10, .int .i64 u11, .sl 3 u12i u12o u12n, .int .i64 u13, .int .i64 u14, .int .i64 u15, .sl 1 u16i u16o u16n, .sl 1 u17i u17o u17n], .agg [.int .i64 q1, .int .i64 q2, .int .i64 q3, .int .i64 q4, .int .i64 q5, .int .u8 q6]] G).bind fun q7 => ((q7.1[0]?).bind V1.a?).bind fun q8 => if q8.length = 14 then (((q8[0]?).bind (Cell.asI .i64)).bind fun q9 => ((q8[1]?).bind (Cell.asI .i64)).bind fun q10 => ((q8[2]?).bind (Cell.asI .i64)).bind fun q11 => ((q8[3]?).bind (Cell.asI .i64)).bind fun q12 => ((q8[4]?).bind (Cell.asI .i64)).bind fun q13 => ((q8[5]?).bind (Cell.asI .i64)).bind fun q14 => ((q8[6]?).bind (Cell.asI .i64)).bind fun q15 => ((q8[7]?).bind (Cell.asI .i64)).bind fun q16 => ((q8[8]?).bind (Cell.asS 3)).bind fun q17 => ((q8[9]?).bind (Cell.asI .i64)).bind fun q18 => ((q8[10]?).bind (Cell.asI .i64)).bind fun q19 => ((q8[11]?).bind (Cell.asI .i64)).bind fun q20 => ((q8[12]?).bind (Cell.asS 1)).bind fun q21 => ((q8[13]?).bind (Cell.asS 1)).bind fun q22 => ((q7.1[1]?).bind V1.a?).bind fun q23 => if q23.length = 8 then (((q23[0]?).bind (Cell.asI .i64)).bind fun q24 => ((q23[1]?).bind (Cell.asI .i64)).bind fun q25 => ((q23[2]?).bind (Cell.asI .i64)).bind fun q26 => ((q23[3]?).bind (Cell.asI .u8)).bind fun q27 => ((q23[4]?).bind (Cell.asI .i64)).bind fun q28 => ((q23[5]?).bind (Cell.asI .i64)).bind fun q29 => ((q23[6]?).bind (Cell.asI .i64)).bind fun q30 => ((q23[7]?).bind (Cell.asI .i64)).bind fun q31 => let q32 := q7.2.alloc (.row [.int .i64 q24, .int .i64 q25, .int .i64 q26, .int .u8 q27, .int .i64 q28, .int .i64 q29, .int .i64 q30, .int .i64 q31] false); (if 1 = 0 then some [] else q32.lds q7.2.next 0 (1 * 8)).bind fun q33 => guardK (decide (u2n + 1 ≤ most)) ((q32.app u2i u2o u2n 8 1 q33).bind fun q34 => hodmanref17_All.L15 M C u1i u1o u1n q34.1 q34.2.1 (u2n + 1) (IntKind.i64.wrap (u3 + 1)) q9 q10 q11 q12 q13 q14 q15 q16 q17.1 q17.2.1 q17.2.2 q18 q19 q20 q21.1 q21.2.1 q21.2.2 q22.1 q22.2.1 q22.2.2 u18 u19 u20 u21 u22 u23 u24 u25 u26i u26o u26n u27 u28 u29 u30i u30o u30n u31i u31o u31n q34.2.2)) else none) else none) else some ([.agg [.int .i64 u4, .int .i64 u5, .int .i64 u6, .int .i64 u7, .int .i64 u8, .int .i64 u9, .int .i64 u10, .int .i64 u11, .sl 3 u12i u12o u12n, .int .i64 u13, .int .i64 u14, .int .i64 u15, .sl 1 u16i u16o u16n, .sl 1 u17i u17o u17n], .c (.sl 8 u2i u2o u2n)], G)) := (M.hs _ _ _ _ _ _ _).trans (by kernel_rfl)
def hodmanref17_All.f (M : Mach) (C : Call) (u1 u2 u3 u4 u5 u6 u7 u8 : Int) (u9i u9o u9n : Nat) (u10 u11 u12 : Int) (u13i u13o u13n u14i u14o u14n u15i u15o u15n : Nat) (G : GH) : Option Res := hodmanref17_All.L15 M C u15i u15o u15n 0 0 0 0 u1 u2 u3 u4 u5 u6 u7 u8 u9i u9o u9n u10 u11 u12 u13i u13o u13n u14i u14o u14n 0 0 0 0 0 0 0 0 0 0 0 0 0 0 0 0 0 0 0 0 G
theorem hodmanref17_All.eq (M : Mach) (C : Call) (u1 u2 u3 u4 u5 u6 u7 u8 : Int) (u9i u9o u9n : Nat) (u10 u11 u12 : Int) (u13i u13o u13n u14i u14o u14n u15i u15o u15n : Nat) (G : GH) : runF M C hodmanref17_All.d [.agg [.int .i64 u1, .int .i64 u2, .int .i64 u3, .int .i64 u4, .int .i64 u5, .int .i64 u6, .int .i64 u7, .int .i64 u8, .sl 3 u9i u9o u9n, .int .i64 u10, .int .i64 u11, .int .i64 u12, .sl 1 u13i u13o u13n, .sl 1 u14i u14o u14n], .c (.sl 6 u15i u15o u15n)] G = hodmanref17_All.f M C u1 u2 u3 u4 u5 u6 u7 u8 u9i u9o u9n u10 u11 u12 u13i u13o u13n u14i u14o u14n u15i u15o u15n G := by kernel_rfl

/- 66 hodman/hodmanref8.Fill -/
def hodmanref8_Fill.c7 : DCode := (.cond (.t 19) (.seq (.region [⟨0, some 20, .move (.t 9), none⟩,
    ⟨1, some 8, .move (.t 20), none⟩]) .ret) .skip)
def hodmanref8_Fill.c18 : DCode := (.cond (.t 35) (.region [⟨0, some 36, .move (.t 9), none⟩,
    ⟨1, some 37, .move (.t 10), none⟩,
    ⟨2, some 38, .move (.t 1), none⟩,
    ⟨3, some 39, .move (.t 2), none⟩,
    ⟨4, some 40, .move (.t 10), none⟩,
    ⟨5, some 41, .move (.t 3), none⟩,
    ⟨6, some 42, .bin .rem .i64 (.t 40) (.t 41), none⟩,
    ⟨7, some 43, .call 73 [.t 38, .t 39, .t 42] [.c (.int .u8)], none⟩,
    ⟨8, some 44, .iaddr (.t 36) (.t 37) 1, none⟩,
    ⟨9, none, .stG 44 (.t 43) 1, none⟩]) .skip)
def hodmanref8_Fill.c21 : DCode := (.region [⟨0, some 25, .move (.t 10), none⟩,
    ⟨1, some 26, .bin .add .i64 (.t 25) (.k (.c (.int .i64 1))), none⟩,
    ⟨2, some 10, .move (.t 26), none⟩])
def hodmanref8_Fill.c23 : DCode := (.seq (.seq (.region [⟨0, some 21, .move (.t 10), none⟩,
    ⟨1, some 22, .move (.t 9), none⟩,
    ⟨2, some 23, .len (.t 22), none⟩,
    ⟨3, some 24, .cmp .lss .i64 (.t 21) (.t 23), none⟩]) (.cond (.t 24) .skip (.exit 0))) (.seq (.block 1 (.seq (.region [⟨0, some 27, .move (.t 3), none⟩,
    ⟨1, some 28, .cmp .gtr .i64 (.t 27) (.k (.c (.int .i64 0))), none⟩,
    ⟨2, some 29, .move (.t 28), none⟩,
    ⟨3, some 30, .move (.t 10), some (29, true)⟩,
    ⟨4, some 31, .move (.t 3), some (29, true)⟩,
    ⟨5, some 32, .bin .quo .i64 (.t 30) (.t 31), some (29, true)⟩,
    ⟨6, some 33, .move (.t 2), some (29, true)⟩,
    ⟨7, some 34, .cmp .eql .i64 (.t 32) (.t 33), some (29, true)⟩,
    ⟨8, some 35, .pick (.t 29) (.t 34) (.k (.c (.bool false))), none⟩]) (.cut [1, 2, 3, 9, 10, 35] hodmanref8_Fill.c18))) (.cut [1, 2, 3, 9, 10] hodmanref8_Fill.c21)))
def hodmanref8_Fill.c24 : DCode := (.loop [1, 2, 3, 9, 10] hodmanref8_Fill.c23)
def hodmanref8_Fill.c29 : DCode := (.seq (.region [⟨0, some 45, .move (.t 9), none⟩,
    ⟨1, some 8, .move (.t 45), none⟩]) .ret)
def hodmanref8_Fill.c30 : DCode := (.seq (.seq (.region [⟨0, some 10, .move (.k (.c (.int .i64 0))), none⟩]) (.block 0 hodmanref8_Fill.c24)) hodmanref8_Fill.c29)
def hodmanref8_Fill.d : DFn := { ntmps := 46, res := [.t 8], body := (.seq (.region [⟨0, some 8, .move (.k (.c (.sl 1 0 0 0))), none⟩]) (.seq (.region [⟨0, some 11, .bslice 0 1 [] [], none⟩,
    ⟨1, some 12, .move (.t 0), none⟩,
    ⟨2, some 13, .app (.t 11) (.t 12) 1 1, none⟩,
    ⟨3, some 9, .move (.t 13), none⟩]) (.seq (.seq (.region [⟨0, some 14, .move (.t 2), none⟩,
    ⟨1, some 15, .cmp .lss .i64 (.t 14) (.k (.c (.int .i64 0))), none⟩,
    ⟨2, some 16, .move (.t 15), none⟩,
    ⟨3, some 17, .move (.t 3), some (16, false)⟩,
    ⟨4, some 18, .cmp .lss .i64 (.t 17) (.k (.c (.int .i64 0))), some (16, false)⟩,
    ⟨5, some 19, .pick (.t 16) (.k (.c (.bool true))) (.t 18), none⟩]) (.cut [1, 2, 3, 9, 19] hodmanref8_Fill.c7)) hodmanref8_Fill.c30))) }
def hodmanref8_Fill.k30 (M : Mach) (C : Call) : Kont := execC M.j C (M.ag C) hodmanref8_Fill.c30 ({ exits := [], ret := retK hodmanref8_Fill.d } : Env) (retK hodmanref8_Fill.d)
def hodmanref8_Fill.J7 (M : Mach) (C : Call) (u1 u2 u3 : Int) (u4i u4o u4n : Nat) (u5 : Bool) (G : GH) : Option Res := M.j (execC M.j C (M.ag C) hodmanref8_Fill.c7 ({ exits := [], ret := retK hodmanref8_Fill.d } : Env) (hodmanref8_Fill.k30 M C)) [.und, .v (.c (.int .i64 u1)), .v (.c (.int .i64 u2)), .v (.c (.int .i64 u3)), .und, .und, .und, .und, .und, .v (.c (.sl 1 u4i u4o u4n)), .und, .und, .und, .und, .und, .und, .und, .und, .und, .v (.c (.bool u5)), .und, .und, .und, .und, .und, .und, .und, .und, .und, .und, .und, .und, .und, .und, .und, .und, .und, .und, .und, .und, .und, .und, .und, .und, .und, .und] G
def hodmanref8_Fill.k29 (M : Mach) (C : Call) : Kont := execC M.j C (M.ag C) hodmanref8_Fill.c29 ({ exits := [], ret := retK hodmanref8_Fill.d } : Env) (retK hodmanref8_Fill.d)
def hodmanref8_Fill.e25 (M : Mach) (C : Call) : Env := { exits := (0, (hodmanref8_Fill.k29 M C)) :: (({ exits := [], ret := retK hodmanref8_Fill.d } : Env)).exits, ret := (({ exits := [], ret := retK hodmanref8_Fill.d } : Env)).ret }
def hodmanref8_Fill.L24 (M : Mach) (C : Call) (u1 u2 u3 : Int) (u4i u4o u4n : Nat) (u5 : Int) (G : GH) : Option Res := M.ag C [1, 2, 3, 9, 10] hodmanref8_Fill.c23 (hodmanref8_Fill.e25 M C) (hodmanref8_Fill.k29 M C) [.und, .v (.c (.int .i64 u1)), .v (.c (.int .i64 u2)), .v (.c (.int .i64 u3)), .und, .und, .und, .und, .und, .v (.c (.sl 1 u4i u4o u4n)), .v (.c (.int .i64 u5)), .und, .und, .und, .und, .und, .und, .und, .und, .und, .und, .und, .und, .und, .und, .und, .und, .und, .und, .und, .und, .und, .und, .und, .und, .und, .und, .und, .und, .und, .und, .und, .und, .und, .und, .und] G
def hodmanref8_Fill.k24 (M : Mach) (C : Call) : Kont := fun tm G => M.ag C [1, 2, 3, 9, 10] hodmanref8_Fill.c23 (hodmanref8_Fill.e25 M C) (hodmanref8_Fill.k29 M C) (restr [1, 2, 3, 9, 10] 0 tm) G
def hodmanref8_Fill.k21 (M : Mach) (C : Call) : Kont := execC M.j C (M.ag C) (.cut [1, 2, 3, 9, 10] hodmanref8_Fill.c21) (hodmanref8_Fill.e25 M C) (hodmanref8_Fill.k24 M C)
def hodmanref8_Fill.e20 (M : Mach) (C : Call) : Env := { exits := (1, (hodmanref8_Fill.k21 M C)) :: ((hodmanref8_Fill.e25 M C)).exits, ret := ((hodmanref8_Fill.e25 M C)).ret }
def hodmanref8_Fill.J18 (M : Mach) (C : Call) (u1 u2 u3 : Int) (u4i u4o u4n : Nat) (u5 : Int) (u6 : Bool) (G : GH) : Option Res := M.j (execC M.j C (M.ag C) hodmanref8_Fill.c18 (hodmanref8_Fill.e20 M C) (hodmanref8_Fill.k21 M C)) [.und, .v (.c (.int .i64 u1)), .v (.c (.int .i64 u2)), .v (.c (.int .i64 u3)), .und, .und, .und, .und, .und, .v (.c (.sl 1 u4i u4o u4n)), .v (.c (.int .i64 u5)), .und, .und, .und, .und, .und, .und, .und, .und, .und, .und, .und, .und, .und, .und, .und, .und, .und, .und, .und, .und, .und, .und, .und, .und, .v (.c (.bool u6)), .und, .und, .und, .und, .und, .und, .und, .und, .und, .und] G
def hodmanref8_Fill.J21 (M : Mach) (C : Call) (u1 u2 u3 : Int) (u4i u4o u4n : Nat) (u5 : Int) (G : GH) : Option Res := M.j (execC M.j C (M.ag C) hodmanref8_Fill.c21 (hodmanref8_Fill.e25 M C) (hodmanref8_Fill.k24 M C)) [.und, .v (.c (.int .i64 u1)), .v (.c (.int .i64 u2)), .v (.c (.int .i64 u3)), .und, .und, .und, .und, .und, .v (.c (.sl 1 u4i u4o u4n)), .v (.c (.int .i64 u5)), .und, .und, .und, .und, .und, .und, .und, .und, .und, .und, .und, .und, .und, .und, .und, .und, .und, .und, .und, .und, .und, .und, .und, .und, .und, .und, .und, .und, .und, .und, .und, .und, .und, .und, .und] G
theorem hodmanref8_Fill.J7_eq (M : Mach) (C : Call) (u1 u2 u3 : Int) (u4i u4o u4n : Nat) (u5 : Bool) (G : GH) : hodmanref8_Fill.J7 M C u1 u2 u3 u4i u4o u4n u5 G = (bif u5 then some ([.c (.sl 1 u4i u4o u4n)], G) else hodmanref8_Fill.L24 M C u1 u2 u3 u4i u4o u4n 0 G) := (M.hj _ _ _).trans (by kernel_rfl)
theorem hodmanref8_Fill.L24_eq (M : Mach) (C : Call) (u1 u2 u3 : Int) (u4i u4o u4n : Nat) (u5 : Int) (G : GH) : hodmanref8_Fill.L24 M C u1 u2 u3 u4i u4o u4n u5 G = (bif decide (u5 < ((u4n : Nat) : Int)) then bif decide (u3 > 0) then (binD .quo .i64 u5 u3).bind fun q4 => hodmanref8_Fill.J18 M C u1 u2 u3 u4i u4o u4n u5 (decide (q4 = u2)) G else hodmanref8_Fill.J18 M C u1 u2 u3 u4i u4o u4n u5 false G else some ([.c (.sl 1 u4i u4o u4n)], G)) := (M.hs _ _ _ _ _ _ _).trans (by kernel_rfl)
theorem hodmanref8_Fill.J18_eq (M : Mach) (C : Call) (u1 u2 u3 : Int) (u4i u4o u4n : Nat) (u5 : Int) (u6 : Bool) (G : GH) : hodmanref8_Fill.J18 M C u1 u2 u3 u4i u4o u4n u5 u6 G = (bif u6 then (binD .rem .i64 u5 u3).bind fun q5 => (C hodmanref8_Byte.id [.c (.int .i64 u1), .c (.int .i64 u2), .c (.int .i64 q5)] G).bind fun q6 => (((q6.1[0]?).bind V1.c?).bind (Cell.asI .u8)).bind fun q7 => guardK (decide (0 ≤ u5 ∧ u5 < ((u4n : Nat) : Int))) ((q6.2.sts u4i (u4o + Int.toNat u5 * 1) [.int .u8 q7]).bind fun q8 => hodmanref8_Fill.J21 M C u1 u2 u3 u4i u4o u4n u5 q8) else hodmanref8_Fill.J21 M C u1 u2 u3 u4i u4o u4n u5 G) := (M.hj _ _ _).trans (by kernel_rfl)
theorem hodmanref8_Fill.J21_eq (M : Mach) (C : Call) (u1 u2 u3 : Int) (u4i u4o u4n : Nat) (u5 : Int) (G : GH) : hodmanref8_Fill.J21 M C u1 u2 u3 u4i u4o u4n u5 G = (hodmanref8_Fill.L24 M C u1 u2 u3 u4i u4o u4n (IntKind.i64.wrap (u5 + 1)) G) := (M.hj _ _ _).trans (by kernel_rfl)
def hodmanref8_Fill.f (M : Mach) (C : Call) (u1i u1o u1n : Nat) (u2 u3 u4 : Int) (G : GH) : Option Res := let q1 := G.alloc (.row [] false); (if u1n = 0 then some [] else q1.lds u1i u1o (u1n * 1)).bind fun q2 => guardK (decide (0 + u1n ≤ most)) ((q1.app G.next 0 0 1 u1n q2).bind fun q3 => bif decide (u3 < 0) then hodmanref8_Fill.J7 M C u2 u3 u4 q3.1 q3.2.1 (0 + u1n) true q3.2.2 else hodmanref8_Fill.J7 M C u2 u3 u4 q3.1 q3.2.1 (0 + u1n) (decide (u4 < 0)) q3.2.2)
theorem hodmanref8_Fill.eq (M : Mach) (C : Call) (u1i u1o u1n : Nat) (u2 u3 u4 : Int) (G : GH) : runF M C hodmanref8_Fill.d [.c (.sl 1 u1i u1o u1n), .c (.int .i64 u2), .c (.int .i64 u3), .c (.int .i64 u4)] G = hodmanref8_Fill.f M C u1i u1o u1n u2 u3 u4 G := by kernel_rfl

/- 40 hodman/hodmanref17.charged -/
def hodmanref17_charged.c33 : DCode := (.cond (.t 10) (.seq (.region [⟨0, some 13, .ldL 2 48 (.agg [.int .i64, .int .i64, .int .i64, .int .i64, .int .i64, .int .i64, .int .i64, .int .i64]), none⟩,
    ⟨1, some 14, .faddr 3 2, none⟩,
    ⟨2, some 15, .ldL 14 49 (.c (.int .i64)), none⟩,
    ⟨3, some 16, .call 59 [.t 13, .t 15, .k (.c (.int .i64 1))] [.c (.int .i64), .c (.int .i64)], none⟩,
    ⟨4, some 17, .ext 16 0, none⟩,
    ⟨5, some 18, .ext 16 1, none⟩,
    ⟨6, some 4, .move (.t 17), none⟩,
    ⟨7, some 5, .move (.t 18), none⟩]) .ret) (.seq (.region [⟨0, some 20, .cmp .eql .i64 (.t 9) (.k (.c (.int .i64 3))), none⟩,
    ⟨1, some 19, .move (.t 20), none⟩]) (.cond (.t 19) (.seq (.region [⟨0, some 21, .ldL 2 48 (.agg [.int .i64, .int .i64, .int .i64, .int .i64, .int .i64, .int .i64, .int .i64, .int .i64]), none⟩,
    ⟨1, some 22, .faddr 3 2, none⟩,
    ⟨2, some 23, .ldL 22 49 (.c (.int .i64)), none⟩,
    ⟨3, some 24, .faddr 3 3, none⟩,
    ⟨4, some 25, .ldL 24 49 (.c (.int .i64)), none⟩,
    ⟨5, some 26, .call 59 [.t 21, .t 23, .t 25] [.c (.int .i64), .c (.int .i64)], none⟩,
    ⟨6, some 27, .ext 26 0, none⟩,
    ⟨7, some 28, .ext 26 1, none⟩,
    ⟨8, some 4, .move (.t 27), none⟩,
    ⟨9, some 5, .move (.t 28), none⟩]) .ret) (.seq (.region [⟨0, some 30, .cmp .eql .i64 (.t 9) (.k (.c (.int .i64 2))), none⟩,
    ⟨1, some 29, .move (.t 30), none⟩]) (.cond (.t 29) (.seq (.region [⟨0, some 32, .ldL 2 48 (.agg [.int .i64, .int .i64, .int .i64, .int .i64, .int .i64, .int .i64, .int .i64, .int .i64]), none⟩,
    ⟨1, some 33, .faddr 3 4, none⟩,
    ⟨2, some 34, .ldL 33 49 (.c (.int .i64)), none⟩,
    ⟨3, some 35, .faddr 3 2, none⟩,
    ⟨4, some 36, .ldL 35 49 (.c (.int .i64)), none⟩,
    ⟨5, some 37, .call 60 [.t 32, .t 34, .t 36] [.c (.int .i64), .c (.int .i64)], none⟩,
    ⟨6, some 31, .move (.t 37), none⟩,
    ⟨7, some 38, .ext 31 0, none⟩,
    ⟨8, some 39, .ext 31 1, none⟩,
    ⟨9, some 6, .move (.t 38), none⟩,
    ⟨10, some 7, .move (.t 39), none⟩]) (.seq (.seq (.region [⟨0, some 40, .move (.t 7), none⟩,
    ⟨1, some 41, .cmp .neq .i64 (.t 40) (.k (.c (.int .i64 0))), none⟩]) (.cond (.t 41) (.seq (.region [⟨0, some 42, .move (.t 7), none⟩,
    ⟨1, some 4, .move (.k (.c (.int .i64 0))), none⟩,
    ⟨2, some 5, .move (.t 42), none⟩]) .ret) .skip)) (.seq (.region [⟨0, some 43, .ldL 2 48 (.agg [.int .i64, .int .i64, .int .i64, .int .i64, .int .i64, .int .i64, .int .i64, .int .i64]), none⟩,
    ⟨1, some 44, .move (.t 6), none⟩,
    ⟨2, some 45, .call 59 [.t 43, .t 44, .k (.c (.int .i64 1))] [.c (.int .i64), .c (.int .i64)], none⟩,
    ⟨3, some 46, .ext 45 0, none⟩,
    ⟨4, some 47, .ext 45 1, none⟩,
    ⟨5, some 4, .move (.t 46), none⟩,
    ⟨6, some 5, .move (.t 47), none⟩]) .ret))) .skip)))))
def hodmanref17_charged.c39 : DCode := (.seq (.region [⟨0, some 4, .move (.k (.c (.int .i64 0))), none⟩,
    ⟨1, some 5, .move (.k (.c (.int .i64 0))), none⟩]) .ret)
def hodmanref17_charged.d : DFn := { ntmps := 50, res := [.t 4, .t 5], body := (.seq (.region [⟨0, some 2, .boxv 48 [] (.t 0) 8, none⟩,
    ⟨1, some 3, .boxv 49 [8, 14, 22, 24, 33, 35] (.t 1) 6, none⟩,
    ⟨2, some 4, .move (.k (.c (.int .i64 0))), none⟩,
    ⟨3, some 5, .move (.k (.c (.int .i64 0))), none⟩]) (.seq (.seq (.region [⟨0, some 8, .faddr 3 0, none⟩,
    ⟨1, some 9, .ldL 8 49 (.c (.int .i64)), none⟩]) (.block 0 (.seq (.seq (.region [⟨0, some 11, .cmp .eql .i64 (.t 9) (.k (.c (.int .i64 1))), none⟩,
    ⟨1, some 10, .move (.t 11), none⟩]) (.cond (.t 10) .skip (.region [⟨0, some 12, .cmp .eql .i64 (.t 9) (.k (.c (.int .i64 4))), none⟩,
    ⟨1, some 10, .move (.t 12), none⟩]))) (.cut [2, 3, 9, 10, 48, 49] hodmanref17_charged.c33)))) hodmanref17_charged.c39)) }
def hodmanref17_charged.k39 (M : Mach) (C : Call) : Kont := execC M.j C (M.ag C) hodmanref17_charged.c39 ({ exits := [], ret := retK hodmanref17_charged.d } : Env) (retK hodmanref17_charged.d)
def hodmanref17_charged.e35 (M : Mach) (C : Call) : Env := { exits := (0, (hodmanref17_charged.k39 M C)) :: (({ exits := [], ret := retK hodmanref17_charged.d } : Env)).exits, ret := (({ exits := [], ret := retK hodmanref17_charged.d } : Env)).ret }
def hodmanref17_charged.J33 (M : Mach) (C : Call) (u1 : Int) (u2 : Bool) (u3 u4 u5 u6 u7 u8 u9 u10 u11 u12 u13 u14 u15 u16 : Int) (G : GH) : Option Res := M.j (execC M.j C (M.ag C) hodmanref17_charged.c33 (hodmanref17_charged.e35 M C) (hodmanref17_charged.k39 M C)) [.und, .und, .ref 48 0, .ref 49 0, .und, .und, .und, .und, .und, .v (.c (.int .i64 u1)), .v (.c (.bool u2)), .und, .und, .und, .und, .und, .und, .und, .und, .und, .und, .und, .und, .und, .und, .und, .und, .und, .und, .und, .und, .und, .und, .und, .und, .und, .und, .und, .und, .und, .und, .und, .und, .und, .und, .und, .und, .und, .box [.int .i64 u3, .int .i64 u4, .int .i64 u5, .int .i64 u6, .int .i64 u7, .int .i64 u8, .int .i64 u9, .int .i64 u10], .box [.int .i64 u11, .int .i64 u12, .int .i64 u13, .int .i64 u14, .int .i64 u15, .int .u8 u16]] G
theorem hodmanref17_charged.J33_eq (M : Mach) (C : Call) (u1 : Int) (u2 : Bool) (u3 u4 u5 u6 u7 u8 u9 u10 u11 u12 u13 u14 u15 u16 : Int) (G : GH) : hodmanref17_charged.J33 M C u1 u2 u3 u4 u5 u6 u7 u8 u9 u10 u11 u12 u13 u14 u15 u16 G = (bif u2 then (C hodmanref1_Charge.id [.agg [.int .i64 u3, .int .i64 u4, .int .i64 u5, .int .i64 u6, .int .i64 u7, .int .i64 u8, .int .i64 u9, .int .i64 u10], .c (.int .i64 u13), .c (.int .i64 1)] G).bind fun q1 => (((q1.1[0]?).bind V1.c?).bind (Cell.asI .i64)).bind fun q2 => (((q1.1[1]?).bind V1.c?).bind (Cell.asI .i64)).bind fun q3 => some ([.c (.int .i64 q2), .c (.int .i64 q3)], q1.2) else bif decide (u1 = 3) then (C hodmanref1_Charge.id [.agg [.int .i64 u3, .int .i64 u4, .int .i64 u5, .int .i64 u6, .int .i64 u7, .int .i64 u8, .int .i64 u9, .int .i64 u10], .c (.int .i64 u13), .c (.int .i64 u14)] G).bind fun q4 => (((q4.1[0]?).bind V1.c?).bind (Cell.asI .i64)).bind fun q5 => (((q4.1[1]?).bind V1.c?).bind (Cell.asI .i64)).bind fun q6 => some ([.c (.int .i64 q5), .c (.int .i64 q6)], q4.2) else bif decide (u1 = 2) then (C hodmanref1_Product.id [.agg [.int .i64 u3, .int .i64 u4, .int .i64 u5, .int .i64 u6, .int .i64 u7, .int .i64 u8, .int .i64 u9, .int .i64 u10], .c (.int .i64 u15), .c (.int .i64 u13)] G).bind fun q7 => (((q7.1[0]?).bind V1.c?).bind (Cell.asI .i64)).bind fun q8 => (((q7.1[1]?).bind V1.c?).bind (Cell.asI .i64)).bind fun q9 => bif (!decide (q9 = 0)) then some ([.c (.int .i64 0), .c (.int .i64 q9)], q7.2) else (C hodmanref1_Charge.id [.agg [.int .i64 u3, .int .i64 u4, .int .i64 u5, .int .i64 u6, .int .i64 u7, .int .i64 u8, .int .i64 u9, .int .i64 u10], .c (.int .i64 q8), .c (.int .i64 1)] q7.2).bind fun q10 => (((q10.1[0]?).bind V1.c?).bind (Cell.asI .i64)).bind fun q11 => (((q10.1[1]?).bind V1.c?).bind (Cell.asI .i64)).bind fun q12 => some ([.c (.int .i64 q11), .c (.int .i64 q12)], q10.2) else some ([.c (.int .i64 0), .c (.int .i64 0)], G)) := (M.hj _ _ _).trans (by kernel_rfl)
def hodmanref17_charged.f (M : Mach) (C : Call) (u1 u2 u3 u4 u5 u6 u7 u8 u9 u10 u11 u12 u13 u14 : Int) (G : GH) : Option Res := bif decide (u9 = 1) then hodmanref17_charged.J33 M C u9 (decide (u9 = 1)) u1 u2 u3 u4 u5 u6 u7 u8 u9 u10 u11 u12 u13 u14 G else hodmanref17_charged.J33 M C u9 (decide (u9 = 4)) u1 u2 u3 u4 u5 u6 u7 u8 u9 u10 u11 u12 u13 u14 G
theorem hodmanref17_charged.eq (M : Mach) (C : Call) (u1 u2 u3 u4 u5 u6 u7 u8 u9 u10 u11 u12 u13 u14 : Int) (G : GH) : runF M C hodmanref17_charged.d [.agg [.int .i64 u1, .int .i64 u2, .int .i64 u3, .int .i64 u4, .int .i64 u5, .int .i64 u6, .int .i64 u7, .int .i64 u8], .agg [.int .i64 u9, .int .i64 u10, .int .i64 u11, .int .i64 u12, .int .i64 u13, .int .u8 u14]] G = hodmanref17_charged.f M C u1 u2 u3 u4 u5 u6 u7 u8 u9 u10 u11 u12 u13 u14 G := by kernel_rfl

/- 59 hodman/hodmanref1.Charge -/
def hodmanref1_Charge.c7 : DCode := (.cond (.t 24) (.seq (.region [⟨0, some 6, .move (.k (.c (.int .i64 0))), none⟩,
    ⟨1, some 7, .move (.k (.c (.int .i64 3))), none⟩]) .ret) .skip)
def hodmanref1_Charge.c14 : DCode := (.cond (.t 32) (.seq (.region [⟨0, some 6, .move (.k (.c (.int .i64 0))), none⟩,
    ⟨1, some 7, .move (.k (.c (.int .i64 4))), none⟩]) .ret) .skip)
def hodmanref1_Charge.c20 : DCode := (.seq (.region [⟨0, some 34, .move (.t 1), none⟩,
    ⟨1, some 35, .move (.t 2), none⟩,
    ⟨2, some 36, .mx (.t 34) [.t 35], none⟩,
    ⟨3, some 37, .faddr 3 0, none⟩,
    ⟨4, some 38, .ldL 37 44 (.c (.int .i64)), none⟩,
    ⟨5, some 39, .mx (.t 36) [.t 38], none⟩,
    ⟨6, some 40, .call 42 [.t 39] [.c (.int .i64), .c (.bool)], none⟩,
    ⟨7, some 33, .move (.t 40), none⟩,
    ⟨8, some 41, .ext 33 0, none⟩,
    ⟨9, some 42, .ext 33 1, none⟩,
    ⟨10, some 10, .move (.t 41), none⟩,
    ⟨11, some 11, .move (.t 42), none⟩]) (.seq (.region [⟨0, some 43, .move (.t 10), none⟩,
    ⟨1, some 6, .move (.t 43), none⟩,
    ⟨2, some 7, .move (.k (.c (.int .i64 0))), none⟩]) .ret))
def hodmanref1_Charge.c21 : DCode := (.seq (.seq (.region [⟨0, some 25, .move (.t 1), none⟩,
    ⟨1, some 26, .cmp .lss .i64 (.t 25) (.k (.c (.int .i64 0))), none⟩,
    ⟨2, some 27, .move (.t 26), none⟩,
    ⟨3, some 28, .move (.t 1), some (27, false)⟩,
    ⟨4, some 29, .faddr 3 1, some (27, false)⟩,
    ⟨5, some 30, .ldL 29 44 (.c (.int .i64)), some (27, false)⟩,
    ⟨6, some 31, .cmp .gtr .i64 (.t 28) (.t 30), some (27, false)⟩,
    ⟨7, some 32, .pick (.t 27) (.k (.c (.bool true))) (.t 31), none⟩]) (.cut [1, 2, 3, 32, 44] hodmanref1_Charge.c14)) hodmanref1_Charge.c20)
def hodmanref1_Charge.d : DFn := { ntmps := 45, res := [.t 6, .t 7], body := (.seq (.region [⟨0, some 3, .boxv 44 [21, 29, 37] (.t 0) 8, none⟩,
    ⟨1, some 6, .move (.k (.c (.int .i64 0))), none⟩,
    ⟨2, some 7, .move (.k (.c (.int .i64 0))), none⟩]) (.seq (.region [⟨0, some 13, .move (.t 2), none⟩,
    ⟨1, some 14, .call 44 [.t 13] [.c (.int .i64), .c (.bool)], none⟩,
    ⟨2, some 12, .move (.t 14), none⟩,
    ⟨3, some 15, .ext 12 0, none⟩,
    ⟨4, some 16, .ext 12 1, none⟩,
    ⟨5, some 8, .move (.t 15), none⟩,
    ⟨6, some 9, .move (.t 16), none⟩]) (.seq (.seq (.region [⟨0, some 17, .move (.t 9), none⟩,
    ⟨1, some 18, .not (.t 17), none⟩,
    ⟨2, some 19, .move (.t 18), none⟩,
    ⟨3, some 20, .move (.t 2), some (19, false)⟩,
    ⟨4, some 21, .faddr 3 1, some (19, false)⟩,
    ⟨5, some 22, .ldL 21 44 (.c (.int .i64)), some (19, false)⟩,
    ⟨6, some 23, .cmp .gtr .i64 (.t 20) (.t 22), some (19, false)⟩,
    ⟨7, some 24, .pick (.t 19) (.k (.c (.bool true))) (.t 23), none⟩]) (.cut [1, 2, 3, 24, 44] hodmanref1_Charge.c7)) hodmanref1_Charge.c21))) }
def hodmanref1_Charge.k21 (M : Mach) (C : Call) : Kont := execC M.j C (M.ag C) hodmanref1_Charge.c21 ({ exits := [], ret := retK hodmanref1_Charge.d } : Env) (retK hodmanref1_Charge.d)
def hodmanref1_Charge.J7 (M : Mach) (C : Call) (u1 u2 : Int) (u3 : Bool) (u4 u5 u6 u7 u8 u9 u10 u11 : Int) (G : GH) : Option Res := M.j (execC M.j C (M.ag C) hodmanref1_Charge.c7 ({ exits := [], ret := retK hodmanref1_Charge.d } : Env) (hodmanref1_Charge.k21 M C)) [.und, .v (.c (.int .i64 u1)), .v (.c (.int .i64 u2)), .ref 44 0, .und, .und, .und, .und, .und, .und, .und, .und, .und, .und, .und, .und, .und, .und, .und, .und, .und, .und, .und, .und, .v (.c (.bool u3)), .und, .und, .und, .und, .und, .und, .und, .und, .und, .und, .und, .und, .und, .und, .und, .und, .und, .und, .und, .box [.int .i64 u4, .int .i64 u5, .int .i64 u6, .int .i64 u7, .int .i64 u8, .int .i64 u9, .int .i64 u10, .int .i64 u11]] G
def hodmanref1_Charge.k20 (M : Mach) (C : Call) : Kont := execC M.j C (M.ag C) hodmanref1_Charge.c20 ({ exits := [], ret := retK hodmanref1_Charge.d } : Env) (retK hodmanref1_Charge.d)
def hodmanref1_Charge.J14 (M : Mach) (C : Call) (u1 u2 : Int) (u3 : Bool) (u4 u5 u6 u7 u8 u9 u10 u11 : Int) (G : GH) : Option Res := M.j (execC M.j C (M.ag C) hodmanref1_Charge.c14 ({ exits := [], ret := retK hodmanref1_Charge.d } : Env) (hodmanref1_Charge.k20 M C)) [.und, .v (.c (.int .i64 u1)), .v (.c (.int .i64 u2)), .ref 44 0, .und, .und, .und, .und, .und, .und, .und, .und, .und, .und, .und, .und, .und, .und, .und, .und, .und, .und, .und, .und, .und, .und, .und, .und, .und, .und, .und, .und, .v (.c (.bool u3)), .und, .und, .und, .und, .und, .und, .und, .und, .und, .und, .und, .box [.int .i64 u4, .int .i64 u5, .int .i64 u6, .int .i64 u7, .int .i64 u8, .int .i64 u9, .int .i64 u10, .int .i64 u11]] G
theorem hodmanref1_Charge.J7_eq (M : Mach) (C : Call) (u1 u2 : Int) (u3 : Bool) (u4 u5 u6 u7 u8 u9 u10 u11 : Int) (G : GH) : hodmanref1_Charge.J7 M C u1 u2 u3 u4 u5 u6 u7 u8 u9 u10 u11 G = (bif u3 then some ([.c (.int .i64 0), .c (.int .i64 3)], G) else bif decide (u1 < 0) then hodmanref1_Charge.J14 M C u1 u2 true u4 u5 u6 u7 u8 u9 u10 u11 G else hodmanref1_Charge.J14 M C u1 u2 (decide (u1 > u5)) u4 u5 u6 u7 u8 u9 u10 u11 G) := (M.hj _ _ _).trans (by kernel_rfl)
theorem hodmanref1_Charge.J14_eq (M : Mach) (C : Call) (u1 u2 : Int) (u3 : Bool) (u4 u5 u6 u7 u8 u9 u10 u11 : Int) (G : GH) : hodmanref1_Charge.J14 M C u1 u2 u3 u4 u5 u6 u7 u8 u9 u10 u11 G = (bif u3 then some ([.c (.int .i64 0), .c (.int .i64 4)], G) else (C hodmanref1_Up.id [.c (.int .i64 (mx2 (mx2 u1 u2) u4))] G).bind fun q4 => (((q4.1[0]?).bind V1.c?).bind (Cell.asI .i64)).bind fun q5 => (((q4.1[1]?).bind V1.c?).bind Cell.asB).bind fun q6 => some ([.c (.int .i64 q5), .c (.int .i64 0)], q4.2)) := (M.hj _ _ _).trans (by kernel_rfl)
def hodmanref1_Charge.f (M : Mach) (C : Call) (u1 u2 u3 u4 u5 u6 u7 u8 u9 u10 : Int) (G : GH) : Option Res := (C hodmanref1_Log.id [.c (.int .i64 u10)] G).bind fun q1 => (((q1.1[0]?).bind V1.c?).bind (Cell.asI .i64)).bind fun q2 => (((q1.1[1]?).bind V1.c?).bind Cell.asB).bind fun q3 => bif (!q3) then hodmanref1_Charge.J7 M C u9 u10 true u1 u2 u3 u4 u5 u6 u7 u8 q1.2 else hodmanref1_Charge.J7 M C u9 u10 (decide (u10 > u2)) u1 u2 u3 u4 u5 u6 u7 u8 q1.2
theorem hodmanref1_Charge.eq (M : Mach) (C : Call) (u1 u2 u3 u4 u5 u6 u7 u8 u9 u10 : Int) (G : GH) : runF M C hodmanref1_Charge.d [.agg [.int .i64 u1, .int .i64 u2, .int .i64 u3, .int .i64 u4, .int .i64 u5, .int .i64 u6, .int .i64 u7, .int .i64 u8], .c (.int .i64 u9), .c (.int .i64 u10)] G = hodmanref1_Charge.f M C u1 u2 u3 u4 u5 u6 u7 u8 u9 u10 G := by kernel_rfl

/- 57 hodman/same.moved -/
def same_moved.c23 : DCode := (.region [⟨0, some 45, .bin .add .i64 (.t 28) (.k (.c (.int .i64 1))), none⟩,
    ⟨1, some 28, .move (.t 45), none⟩])
def same_moved.c26 : DCode := (.seq (.region [⟨0, some 29, .cmp .lss .i64 (.t 28) (.t 27), none⟩]) (.seq (.cond (.t 29) .skip (.exit 0)) (.seq (.block 1 (.seq (.region [⟨0, some 30, .iaddr (.t 26) (.t 28) 1, none⟩,
    ⟨1, some 31, .ldG 30 (.c (.int .i64)), none⟩,
    ⟨2, some 7, .move (.t 31), none⟩]) (.seq (.region [⟨0, some 32, .move (.t 7), none⟩,
    ⟨1, some 33, .move (.t 1), none⟩,
    ⟨2, some 34, .cmp .lss .i64 (.t 32) (.t 33), none⟩]) (.cond (.t 34) (.region [⟨0, some 35, .move (.t 5), none⟩,
    ⟨1, some 36, .move (.t 5), none⟩,
    ⟨2, some 37, .nilck (.t 36), none⟩,
    ⟨3, some 38, .faddr 37 2, none⟩,
    ⟨4, some 39, .ldG 38 (.c (.sl 1)), none⟩,
    ⟨5, some 40, .move (.t 7), none⟩,
    ⟨6, some 41, .bslice 1 1 [.int .i64 0] [(0, 1, .t 40)], none⟩,
    ⟨7, some 42, .app (.t 39) (.t 41) 1 8, none⟩,
    ⟨8, some 43, .nilck (.t 35), none⟩,
    ⟨9, some 44, .faddr 43 2, none⟩,
    ⟨10, none, .stG 44 (.t 42) 1, none⟩]) .skip)))) (.cut [1, 5, 26, 27, 28] same_moved.c23))))
def same_moved.c27 : DCode := (.loop [1, 5, 26, 27, 28] same_moved.c26)
def same_moved.c32 : DCode := (.seq (.region [⟨0, some 46, .move (.t 5), none⟩,
    ⟨1, some 4, .move (.t 46), none⟩]) .ret)
def same_moved.d : DFn := { ntmps := 47, res := [.t 4], body := (.seq (.region [⟨0, some 4, .move (.k (.c (.ptr 0 0))), none⟩]) (.seq (.region [⟨0, some 8, .move (.t 1), none⟩,
    ⟨1, some 9, .build [.int .i64 0, .int .i64 0, .sl 1 0 0 0] [(0, 1, .t 8)], none⟩,
    ⟨2, some 10, .newv (.t 9) 3, none⟩,
    ⟨3, some 5, .move (.t 10), none⟩]) (.seq (.seq (.region [⟨0, some 11, .move (.t 0), none⟩,
    ⟨1, some 12, .pnil false (.t 11), none⟩]) (.cond (.t 12) (.seq (.region [⟨0, some 13, .move (.t 5), none⟩,
    ⟨1, some 4, .move (.t 13), none⟩]) .ret) .skip)) (.seq (.region [⟨0, some 14, .move (.t 5), none⟩,
    ⟨1, some 15, .move (.t 0), none⟩,
    ⟨2, some 16, .nilck (.t 15), none⟩,
    ⟨3, some 17, .faddr 16 1, none⟩,
    ⟨4, some 18, .ldG 17 (.c (.int .i64)), none⟩,
    ⟨5, some 19, .move (.t 1), none⟩,
    ⟨6, some 20, .mn (.t 18) [.t 19], none⟩,
    ⟨7, some 21, .nilck (.t 14), none⟩,
    ⟨8, some 22, .faddr 21 1, none⟩,
    ⟨9, none, .stG 22 (.t 20) 1, none⟩]) (.seq (.seq (.region [⟨0, some 23, .move (.t 0), none⟩,
    ⟨1, some 24, .nilck (.t 23), none⟩,
    ⟨2, some 25, .faddr 24 2, none⟩,
    ⟨3, some 26, .ldG 25 (.c (.sl 1)), none⟩,
    ⟨4, some 27, .len (.t 26), none⟩,
    ⟨5, some 28, .move (.k (.c (.int .i64 0))), none⟩]) (.block 0 same_moved.c27)) same_moved.c32))))) }
def same_moved.k32 (M : Mach) (C : Call) : Kont := execC M.j C (M.ag C) same_moved.c32 ({ exits := [], ret := retK same_moved.d } : Env) (retK same_moved.d)
def same_moved.e28 (M : Mach) (C : Call) : Env := { exits := (0, (same_moved.k32 M C)) :: (({ exits := [], ret := retK same_moved.d } : Env)).exits, ret := (({ exits := [], ret := retK same_moved.d } : Env)).ret }
def same_moved.L27 (M : Mach) (C : Call) (u1 : Int) (u2i u2o u3i u3o u3n : Nat) (u4 u5 : Int) (G : GH) : Option Res := M.ag C [1, 5, 26, 27, 28] same_moved.c26 (same_moved.e28 M C) (same_moved.k32 M C) [.und, .v (.c (.int .i64 u1)), .und, .und, .und, .v (.c (.ptr u2i u2o)), .und, .und, .und, .und, .und, .und, .und, .und, .und, .und, .und, .und, .und, .und, .und, .und, .und, .und, .und, .und, .v (.c (.sl 1 u3i u3o u3n)), .v (.c (.int .i64 u4)), .v (.c (.int .i64 u5)), .und, .und, .und, .und, .und, .und, .und, .und, .und, .und, .und, .und, .und, .und, .und, .und, .und, .und] G
def same_moved.k27 (M : Mach) (C : Call) : Kont := fun tm G => M.ag C [1, 5, 26, 27, 28] same_moved.c26 (same_moved.e28 M C) (same_moved.k32 M C) (restr [1, 5, 26, 27, 28] 0 tm) G
def same_moved.J23 (M : Mach) (C : Call) (u1 : Int) (u2i u2o u3i u3o u3n : Nat) (u4 u5 : Int) (G : GH) : Option Res := M.j (execC M.j C (M.ag C) same_moved.c23 (same_moved.e28 M C) (same_moved.k27 M C)) [.und, .v (.c (.int .i64 u1)), .und, .und, .und, .v (.c (.ptr u2i u2o)), .und, .und, .und, .und, .und, .und, .und, .und, .und, .und, .und, .und, .und, .und, .und, .und, .und, .und, .und, .und, .v (.c (.sl 1 u3i u3o u3n)), .v (.c (.int .i64 u4)), .v (.c (.int .i64 u5)), .und, .und, .und, .und, .und, .und, .und, .und, .und, .und, .und, .und, .und, .und, .und, .und, .und, .und] G
theorem same_moved.L27_eq (M : Mach) (C : Call) (u1 : Int) (u2i u2o u3i u3o u3n : Nat) (u4 u5 : Int) (G : GH) : same_moved.L27 M C u1 u2i u2o u3i u3o u3n u4 u5 G = (bif decide (u5 < u4) then guardK (decide (0 ≤ u5 ∧ u5 < ((u3n : Nat) : Int))) (((G.ld u3i (u3o + Int.toNat u5 * 1)).bind (Cell.asI .i64)).bind fun q5 => bif decide (q5 < u1) then guardK (!Nat.beq u2i 0) (((G.ld u2i (u2o + 2)).bind (Cell.asS 1)).bind fun q6 => let q7 := G.alloc (.row [.int .i64 q5] false); (if 1 = 0 then some [] else q7.lds G.next 0 (1 * 1)).bind fun q8 => guardK (decide (q6.2.2 + 1 ≤ most)) ((q7.app q6.1 q6.2.1 q6.2.2 1 1 q8).bind fun q9 => guardK (!Nat.beq u2i 0) ((q9.2.2.sts u2i (u2o + 2) [.sl 1 q9.1 q9.2.1 (q6.2.2 + 1)]).bind fun q10 => same_moved.J23 M C u1 u2i u2o u3i u3o u3n u4 u5 q10))) else same_moved.J23 M C u1 u2i u2o u3i u3o u3n u4 u5 G) else some ([.c (.ptr u2i u2o)], G)) := (M.hs _ _ _ _ _ _ _).trans (by kernel_rfl)
theorem same_moved.J23_eq (M : Mach) (C : Call) (u1 : Int) (u2i u2o u3i u3o u3n : Nat) (u4 u5 : Int) (G : GH) : same_moved.J23 M C u1 u2i u2o u3i u3o u3n u4 u5 G = (same_moved.L27 M C u1 u2i u2o u3i u3o u3n u4 (IntKind.i64.wrap (u5 + 1)) G) := (M.hj _ _ _).trans (by kernel_rfl)
def same_moved.f (M : Mach) (C : Call) (u1i u1o : Nat) (u2 : Int) (G : GH) : Option Res := let q1 := G.alloc (.row [.int .i64 u2, .int .i64 0, .sl 1 0 0 0] false); bif Bool.xor false (Nat.beq u1i 0) then some ([.c (.ptr G.next 0)], q1) else guardK (!Nat.beq u1i 0) (((q1.ld u1i (u1o + 1)).bind (Cell.asI .i64)).bind fun q2 => guardK (!Nat.beq G.next 0) ((q1.sts G.next (0 + 1) [.int .i64 (mn2 q2 u2)]).bind fun q3 => guardK (!Nat.beq u1i 0) (((q3.ld u1i (u1o + 2)).bind (Cell.asS 1)).bind fun q4 => same_moved.L27 M C u2 G.next 0 q4.1 q4.2.1 q4.2.2 ((q4.2.2 : Nat) : Int) 0 q3)))
theorem same_moved.eq (M : Mach) (C : Call) (u1i u1o : Nat) (u2 : Int) (G : GH) : runF M C same_moved.d [.c (.ptr u1i u1o), .c (.int .i64 u2)] G = same_moved.f M C u1i u1o u2 G := by kernel_rfl

/- 70 hodman/class.Charge -/
def class_Charge.c7 : DCode := (.cond (.t 24) (.seq (.region [⟨0, some 6, .move (.k (.c (.int .i64 0))), none⟩,
    ⟨1, some 7, .move (.k (.c (.int .i64 3))), none⟩]) .ret) .skip)
def class_Charge.c15 : DCode := (.cond (.t 32) (.seq (.region [⟨0, some 6, .move (.k (.c (.int .i64 0))), none⟩,
    ⟨1, some 7, .move (.k (.c (.int .i64 4))), none⟩]) .ret) .skip)
def class_Charge.c21 : DCode := (.seq (.region [⟨0, some 34, .move (.t 1), none⟩,
    ⟨1, some 35, .move (.t 2), none⟩,
    ⟨2, some 36, .faddr 3 0, none⟩,
    ⟨3, some 37, .ldL 36 43 (.c (.int .i64)), none⟩,
    ⟨4, some 38, .mx (.t 34) [.t 35, .t 37], none⟩,
    ⟨5, some 39, .call 75 [.t 38] [.c (.int .i64), .c (.bool)], none⟩,
    ⟨6, some 33, .move (.t 39), none⟩,
    ⟨7, some 40, .ext 33 0, none⟩,
    ⟨8, some 41, .ext 33 1, none⟩,
    ⟨9, some 10, .move (.t 40), none⟩,
    ⟨10, some 11, .move (.t 41), none⟩]) (.seq (.region [⟨0, some 42, .move (.t 10), none⟩,
    ⟨1, some 6, .move (.t 42), none⟩,
    ⟨2, some 7, .move (.k (.c (.int .i64 0))), none⟩]) .ret))
def class_Charge.c22 : DCode := (.seq (.seq (.region [⟨0, some 25, .move (.t 1), none⟩,
    ⟨1, some 26, .cmp .lss .i64 (.t 25) (.k (.c (.int .i64 0))), none⟩,
    ⟨2, some 27, .move (.t 26), none⟩,
    ⟨3, some 28, .move (.t 1), some (27, false)⟩,
    ⟨4, some 29, .faddr 3 1, some (27, false)⟩,
    ⟨5, some 30, .ldL 29 43 (.c (.int .i64)), some (27, false)⟩,
    ⟨6, some 31, .cmp .gtr .i64 (.t 28) (.t 30), some (27, false)⟩,
    ⟨7, some 32, .pick (.t 27) (.k (.c (.bool true))) (.t 31), none⟩]) (.cut [1, 2, 3, 32, 43] class_Charge.c15)) class_Charge.c21)
def class_Charge.d : DFn := { ntmps := 44, res := [.t 6, .t 7], body := (.seq (.region [⟨0, some 3, .boxv 43 [21, 29, 36] (.t 0) 8, none⟩,
    ⟨1, some 6, .move (.k (.c (.int .i64 0))), none⟩,
    ⟨2, some 7, .move (.k (.c (.int .i64 0))), none⟩]) (.seq (.seq (.region [⟨0, some 13, .move (.t 2), none⟩,
    ⟨1, some 14, .call 74 [.t 13] [.c (.int .i64), .c (.bool)], none⟩,
    ⟨2, some 12, .move (.t 14), none⟩,
    ⟨3, some 15, .ext 12 0, none⟩,
    ⟨4, some 16, .ext 12 1, none⟩,
    ⟨5, some 8, .move (.t 15), none⟩,
    ⟨6, some 9, .move (.t 16), none⟩]) (.seq (.region [⟨0, some 17, .move (.t 9), none⟩,
    ⟨1, some 18, .not (.t 17), none⟩,
    ⟨2, some 19, .move (.t 18), none⟩,
    ⟨3, some 20, .move (.t 2), some (19, false)⟩,
    ⟨4, some 21, .faddr 3 1, some (19, false)⟩,
    ⟨5, some 22, .ldL 21 43 (.c (.int .i64)), some (19, false)⟩,
    ⟨6, some 23, .cmp .gtr .i64 (.t 20) (.t 22), some (19, false)⟩,
    ⟨7, some 24, .pick (.t 19) (.k (.c (.bool true))) (.t 23), none⟩]) (.cut [1, 2, 3, 24, 43] class_Charge.c7))) class_Charge.c22)) }
def class_Charge.k22 (M : Mach) (C : Call) : Kont := execC M.j C (M.ag C) class_Charge.c22 ({ exits := [], ret := retK class_Charge.d } : Env) (retK class_Charge.d)
def class_Charge.J7 (M : Mach) (C : Call) (u1 u2 : Int) (u3 : Bool) (u4 u5 u6 u7 u8 u9 u10 u11 : Int) (G : GH) : Option Res := M.j (execC M.j C (M.ag C) class_Charge.c7 ({ exits := [], ret := retK class_Charge.d } : Env) (class_Charge.k22 M C)) [.und, .v (.c (.int .i64 u1)), .v (.c (.int .i64 u2)), .ref 43 0, .und, .und, .und, .und, .und, .und, .und, .und, .und, .und, .und, .und, .und, .und, .und, .und, .und, .und, .und, .und, .v (.c (.bool u3)), .und, .und, .und, .und, .und, .und, .und, .und, .und, .und, .und, .und, .und, .und, .und, .und, .und, .und, .box [.int .i64 u4, .int .i64 u5, .int .i64 u6, .int .i64 u7, .int .i64 u8, .int .i64 u9, .int .i64 u10, .int .i64 u11]] G
def class_Charge.k21 (M : Mach) (C : Call) : Kont := execC M.j C (M.ag C) class_Charge.c21 ({ exits := [], ret := retK class_Charge.d } : Env) (retK class_Charge.d)
def class_Charge.J15 (M : Mach) (C : Call) (u1 u2 : Int) (u3 : Bool) (u4 u5 u6 u7 u8 u9 u10 u11 : Int) (G : GH) : Option Res := M.j (execC M.j C (M.ag C) class_Charge.c15 ({ exits := [], ret := retK class_Charge.d } : Env) (class_Charge.k21 M C)) [.und, .v (.c (.int .i64 u1)), .v (.c (.int .i64 u2)), .ref 43 0, .und, .und, .und, .und, .und, .und, .und, .und, .und, .und, .und, .und, .und, .und, .und, .und, .und, .und, .und, .und, .und, .und, .und, .und, .und, .und, .und, .und, .v (.c (.bool u3)), .und, .und, .und, .und, .und, .und, .und, .und, .und, .und, .box [.int .i64 u4, .int .i64 u5, .int .i64 u6, .int .i64 u7, .int .i64 u8, .int .i64 u9, .int .i64 u10, .int .i64 u11]] G
theorem class_Charge.J7_eq (M : Mach) (C : Call) (u1 u2 : Int) (u3 : Bool) (u4 u5 u6 u7 u8 u9 u10 u11 : Int) (G : GH) : class_Charge.J7 M C u1 u2 u3 u4 u5 u6 u7 u8 u9 u10 u11 G = (bif u3 then some ([.c (.int .i64 0), .c (.int .i64 3)], G) else bif decide (u1 < 0) then class_Charge.J15 M C u1 u2 true u4 u5 u6 u7 u8 u9 u10 u11 G else class_Charge.J15 M C u1 u2 (decide (u1 > u5)) u4 u5 u6 u7 u8 u9 u10 u11 G) := (M.hj _ _ _).trans (by kernel_rfl)
theorem class_Charge.J15_eq (M : Mach) (C : Call) (u1 u2 : Int) (u3 : Bool) (u4 u5 u6 u7 u8 u9 u10 u11 : Int) (G : GH) : class_Charge.J15 M C u1 u2 u3 u4 u5 u6 u7 u8 u9 u10 u11 G = (bif u3 then some ([.c (.int .i64 0), .c (.int .i64 4)], G) else (C calc_Up.id [.c (.int .i64 (mx2 (mx2 u1 u2) u4))] G).bind fun q4 => (((q4.1[0]?).bind V1.c?).bind (Cell.asI .i64)).bind fun q5 => (((q4.1[1]?).bind V1.c?).bind Cell.asB).bind fun q6 => some ([.c (.int .i64 q5), .c (.int .i64 0)], q4.2)) := (M.hj _ _ _).trans (by kernel_rfl)
def class_Charge.f (M : Mach) (C : Call) (u1 u2 u3 u4 u5 u6 u7 u8 u9 u10 : Int) (G : GH) : Option Res := (C calc_Log.id [.c (.int .i64 u10)] G).bind fun q1 => (((q1.1[0]?).bind V1.c?).bind (Cell.asI .i64)).bind fun q2 => (((q1.1[1]?).bind V1.c?).bind Cell.asB).bind fun q3 => bif (!q3) then class_Charge.J7 M C u9 u10 true u1 u2 u3 u4 u5 u6 u7 u8 q1.2 else class_Charge.J7 M C u9 u10 (decide (u10 > u2)) u1 u2 u3 u4 u5 u6 u7 u8 q1.2
theorem class_Charge.eq (M : Mach) (C : Call) (u1 u2 u3 u4 u5 u6 u7 u8 u9 u10 : Int) (G : GH) : runF M C class_Charge.d [.agg [.int .i64 u1, .int .i64 u2, .int .i64 u3, .int .i64 u4, .int .i64 u5, .int .i64 u6, .int .i64 u7, .int .i64 u8], .c (.int .i64 u9), .c (.int .i64 u10)] G = class_Charge.f M C u1 u2 u3 u4 u5 u6 u7 u8 u9 u10 G := by kernel_rfl

/- 72 hodman/hodmanref1.Mul -/
def hodmanref1_Mul.c6 : DCode := (.cond (.t 12) (.seq (.region [⟨0, some 4, .move (.k (.c (.int .i64 0))), none⟩,
    ⟨1, some 5, .move (.k (.c (.bool true))), none⟩]) .ret) .skip)
def hodmanref1_Mul.c14 : DCode := (.cond (.t 36) (.seq (.region [⟨0, some 4, .move (.k (.c (.int .i64 0))), none⟩,
    ⟨1, some 5, .move (.k (.c (.bool false))), none⟩]) .ret) .skip)
def hodmanref1_Mul.c18 : DCode := (.seq (.region [⟨0, some 37, .move (.t 6), none⟩,
    ⟨1, some 4, .move (.t 37), none⟩,
    ⟨2, some 5, .move (.k (.c (.bool true))), none⟩]) .ret)
def hodmanref1_Mul.c20 : DCode := (.seq (.region [⟨0, some 13, .move (.t 0), none⟩,
    ⟨1, some 14, .move (.t 1), none⟩,
    ⟨2, some 15, .bin .mul .i64 (.t 13) (.t 14), none⟩,
    ⟨3, some 6, .move (.t 15), none⟩]) (.seq (.seq (.region [⟨0, some 16, .move (.t 0), none⟩,
    ⟨1, some 17, .cmp .eql .i64 (.t 16) (.k (.c (.int .i64 (-1)))), none⟩,
    ⟨2, some 18, .move (.t 17), none⟩,
    ⟨3, some 19, .move (.t 1), some (18, true)⟩,
    ⟨4, some 20, .cmp .eql .i64 (.t 19) (.k (.c (.int .i64 (-9223372036854775808)))), some (18, true)⟩,
    ⟨5, some 21, .pick (.t 18) (.t 20) (.k (.c (.bool false))), none⟩,
    ⟨6, some 22, .move (.t 21), none⟩,
    ⟨7, some 23, .move (.t 1), some (22, false)⟩,
    ⟨8, some 24, .cmp .eql .i64 (.t 23) (.k (.c (.int .i64 (-1)))), some (22, false)⟩,
    ⟨9, some 25, .move (.t 24), some (22, false)⟩,
    ⟨10, some 26, .move (.t 0), some (25, true)⟩,
    ⟨11, some 27, .cmp .eql .i64 (.t 26) (.k (.c (.int .i64 (-9223372036854775808)))), some (25, true)⟩,
    ⟨12, some 28, .pick (.t 25) (.t 27) (.k (.c (.bool false))), some (22, false)⟩,
    ⟨13, some 29, .pick (.t 22) (.k (.c (.bool true))) (.t 28), none⟩,
    ⟨14, some 30, .move (.t 29), none⟩,
    ⟨15, some 31, .move (.t 6), some (30, false)⟩,
    ⟨16, some 32, .move (.t 1), some (30, false)⟩,
    ⟨17, some 33, .bin .quo .i64 (.t 31) (.t 32), some (30, false)⟩,
    ⟨18, some 34, .move (.t 0), some (30, false)⟩,
    ⟨19, some 35, .cmp .neq .i64 (.t 33) (.t 34), some (30, false)⟩,
    ⟨20, some 36, .pick (.t 30) (.k (.c (.bool true))) (.t 35), none⟩]) (.cut [6, 36] hodmanref1_Mul.c14)) hodmanref1_Mul.c18))
def hodmanref1_Mul.d : DFn := { ntmps := 38, res := [.t 4, .t 5], body := (.seq (.region [⟨0, some 4, .move (.k (.c (.int .i64 0))), none⟩,
    ⟨1, some 5, .move (.k (.c (.bool false))), none⟩]) (.seq (.seq (.region [⟨0, some 7, .move (.t 0), none⟩,
    ⟨1, some 8, .cmp .eql .i64 (.t 7) (.k (.c (.int .i64 0))), none⟩,
    ⟨2, some 9, .move (.t 8), none⟩,
    ⟨3, some 10, .move (.t 1), some (9, false)⟩,
    ⟨4, some 11, .cmp .eql .i64 (.t 10) (.k (.c (.int .i64 0))), some (9, false)⟩,
    ⟨5, some 12, .pick (.t 9) (.k (.c (.bool true))) (.t 11), none⟩]) (.cut [0, 1, 12] hodmanref1_Mul.c6)) hodmanref1_Mul.c20)) }
def hodmanref1_Mul.k20 (M : Mach) (C : Call) : Kont := execC M.j C (M.ag C) hodmanref1_Mul.c20 ({ exits := [], ret := retK hodmanref1_Mul.d } : Env) (retK hodmanref1_Mul.d)
def hodmanref1_Mul.J6 (M : Mach) (C : Call) (u1 u2 : Int) (u3 : Bool) (G : GH) : Option Res := M.j (execC M.j C (M.ag C) hodmanref1_Mul.c6 ({ exits := [], ret := retK hodmanref1_Mul.d } : Env) (hodmanref1_Mul.k20 M C)) [.v (.c (.int .i64 u1)), .v (.c (.int .i64 u2)), .und, .und, .und, .und, .und, .und, .und, .und, .und, .und, .v (.c (.bool u3)), .und, .und, .und, .und, .und, .und, .und, .und, .und, .und, .und, .und, .und, .und, .und, .und, .und, .und, .und, .und, .und, .und, .und, .und, .und] G
def hodmanref1_Mul.k18 (M : Mach) (C : Call) : Kont := execC M.j C (M.ag C) hodmanref1_Mul.c18 ({ exits := [], ret := retK hodmanref1_Mul.d } : Env) (retK hodmanref1_Mul.d)
def hodmanref1_Mul.J14 (M : Mach) (C : Call) (u1 : Int) (u2 : Bool) (G : GH) : Option Res := M.j (execC M.j C (M.ag C) hodmanref1_Mul.c14 ({ exits := [], ret := retK hodmanref1_Mul.d } : Env) (hodmanref1_Mul.k18 M C)) [.und, .und, .und, .und, .und, .und, .v (.c (.int .i64 u1)), .und, .und, .und, .und, .und, .und, .und, .und, .und, .und, .und, .und, .und, .und, .und, .und, .und, .und, .und, .und, .und, .und, .und, .und, .und, .und, .und, .und, .und, .v (.c (.bool u2)), .und] G
theorem hodmanref1_Mul.J6_eq (M : Mach) (C : Call) (u1 u2 : Int) (u3 : Bool) (G : GH) : hodmanref1_Mul.J6 M C u1 u2 u3 G = (bif u3 then some ([.c (.int .i64 0), .c (.bool true)], G) else bif decide (u1 = (-1)) then bif decide (u2 = (-9223372036854775808)) then hodmanref1_Mul.J14 M C (IntKind.i64.wrap (u1 * u2)) true G else bif decide (u2 = (-1)) then bif decide (u1 = (-9223372036854775808)) then hodmanref1_Mul.J14 M C (IntKind.i64.wrap (u1 * u2)) true G else (binD .quo .i64 (IntKind.i64.wrap (u1 * u2)) u2).bind fun q1 => hodmanref1_Mul.J14 M C (IntKind.i64.wrap (u1 * u2)) (!decide (q1 = u1)) G else (binD .quo .i64 (IntKind.i64.wrap (u1 * u2)) u2).bind fun q2 => hodmanref1_Mul.J14 M C (IntKind.i64.wrap (u1 * u2)) (!decide (q2 = u1)) G else bif decide (u2 = (-1)) then bif decide (u1 = (-9223372036854775808)) then hodmanref1_Mul.J14 M C (IntKind.i64.wrap (u1 * u2)) true G else (binD .quo .i64 (IntKind.i64.wrap (u1 * u2)) u2).bind fun q3 => hodmanref1_Mul.J14 M C (IntKind.i64.wrap (u1 * u2)) (!decide (q3 = u1)) G else (binD .quo .i64 (IntKind.i64.wrap (u1 * u2)) u2).bind fun q4 => hodmanref1_Mul.J14 M C (IntKind.i64.wrap (u1 * u2)) (!decide (q4 = u1)) G) := (M.hj _ _ _).trans (by kernel_rfl)
theorem hodmanref1_Mul.J14_eq (M : Mach) (C : Call) (u1 : Int) (u2 : Bool) (G : GH) : hodmanref1_Mul.J14 M C u1 u2 G = (bif u2 then some ([.c (.int .i64 0), .c (.bool false)], G) else some ([.c (.int .i64 u1), .c (.bool true)], G)) := (M.hj _ _ _).trans (by kernel_rfl)
def hodmanref1_Mul.f (M : Mach) (C : Call) (u1 u2 : Int) (G : GH) : Option Res := bif decide (u1 = 0) then hodmanref1_Mul.J6 M C u1 u2 true G else hodmanref1_Mul.J6 M C u1 u2 (decide (u2 = 0)) G
theorem hodmanref1_Mul.eq (M : Mach) (C : Call) (u1 u2 : Int) (G : GH) : runF M C hodmanref1_Mul.d [.c (.int .i64 u1), .c (.int .i64 u2)] G = hodmanref1_Mul.f M C u1 u2 G := by kernel_rfl

/- 62 hodman/calc.Mul -/
def calc_Mul.c10 : DCode := (.cond (.t 14) (.seq (.region [⟨0, some 4, .move (.k (.c (.int .i64 0))), none⟩,
    ⟨1, some 5, .move (.k (.c (.bool false))), none⟩]) .ret) .skip)
def calc_Mul.c12 : DCode := (.cond (.t 7) (.seq (.region [⟨0, some 4, .move (.k (.c (.int .i64 0))), none⟩,
    ⟨1, some 5, .move (.k (.c (.bool true))), none⟩]) .ret) (.seq (.region [⟨0, some 15, .move (.t 0), none⟩,
    ⟨1, some 16, .cmp .eql .i64 (.t 15) (.k (.c (.int .i64 (-1)))), none⟩,
    ⟨2, some 17, .move (.t 16), none⟩,
    ⟨3, some 18, .move (.t 1), some (17, true)⟩,
    ⟨4, some 19, .cmp .eql .i64 (.t 18) (.k (.c (.int .i64 (-9223372036854775808)))), some (17, true)⟩,
    ⟨5, some 20, .pick (.t 17) (.t 19) (.k (.c (.bool false))), none⟩,
    ⟨6, some 21, .move (.t 20), none⟩,
    ⟨7, some 22, .move (.t 1), some (21, false)⟩,
    ⟨8, some 23, .cmp .eql .i64 (.t 22) (.k (.c (.int .i64 (-1)))), some (21, false)⟩,
    ⟨9, some 24, .move (.t 23), some (21, false)⟩,
    ⟨10, some 25, .move (.t 0), some (24, true)⟩,
    ⟨11, some 26, .cmp .eql .i64 (.t 25) (.k (.c (.int .i64 (-9223372036854775808)))), some (24, true)⟩,
    ⟨12, some 27, .pick (.t 24) (.t 26) (.k (.c (.bool false))), some (21, false)⟩,
    ⟨13, some 28, .pick (.t 21) (.k (.c (.bool true))) (.t 27), none⟩,
    ⟨14, some 14, .move (.t 28), none⟩]) (.cut [0, 1, 14] calc_Mul.c10)))
def calc_Mul.c27 : DCode := (.seq (.region [⟨0, some 29, .move (.t 0), none⟩,
    ⟨1, some 30, .conv .u64 (.t 29), none⟩,
    ⟨2, some 31, .move (.t 1), none⟩,
    ⟨3, some 32, .conv .u64 (.t 31), none⟩,
    ⟨4, some 33, .bin .mul .u64 (.t 30) (.t 32), none⟩,
    ⟨5, some 34, .conv .i64 (.t 33), none⟩,
    ⟨6, some 6, .move (.t 34), none⟩]) (.seq (.seq (.region [⟨0, some 35, .move (.t 6), none⟩,
    ⟨1, some 36, .move (.t 1), none⟩,
    ⟨2, some 37, .bin .quo .i64 (.t 35) (.t 36), none⟩,
    ⟨3, some 38, .move (.t 0), none⟩,
    ⟨4, some 39, .cmp .neq .i64 (.t 37) (.t 38), none⟩]) (.cond (.t 39) (.seq (.region [⟨0, some 4, .move (.k (.c (.int .i64 0))), none⟩,
    ⟨1, some 5, .move (.k (.c (.bool false))), none⟩]) .ret) .skip)) (.seq (.region [⟨0, some 40, .move (.t 6), none⟩,
    ⟨1, some 4, .move (.t 40), none⟩,
    ⟨2, some 5, .move (.k (.c (.bool true))), none⟩]) .ret)))
def calc_Mul.d : DFn := { ntmps := 41, res := [.t 4, .t 5], body := (.seq (.region [⟨0, some 4, .move (.k (.c (.int .i64 0))), none⟩,
    ⟨1, some 5, .move (.k (.c (.bool false))), none⟩]) (.seq (.block 0 (.seq (.region [⟨0, some 8, .move (.t 0), none⟩,
    ⟨1, some 9, .cmp .eql .i64 (.t 8) (.k (.c (.int .i64 0))), none⟩,
    ⟨2, some 10, .move (.t 9), none⟩,
    ⟨3, some 11, .move (.t 1), some (10, false)⟩,
    ⟨4, some 12, .cmp .eql .i64 (.t 11) (.k (.c (.int .i64 0))), some (10, false)⟩,
    ⟨5, some 13, .pick (.t 10) (.k (.c (.bool true))) (.t 12), none⟩,
    ⟨6, some 7, .move (.t 13), none⟩]) (.cut [0, 1, 7] calc_Mul.c12))) calc_Mul.c27)) }
def calc_Mul.k27 (M : Mach) (C : Call) : Kont := execC M.j C (M.ag C) calc_Mul.c27 ({ exits := [], ret := retK calc_Mul.d } : Env) (retK calc_Mul.d)
def calc_Mul.e14 (M : Mach) (C : Call) : Env := { exits := (0, (calc_Mul.k27 M C)) :: (({ exits := [], ret := retK calc_Mul.d } : Env)).exits, ret := (({ exits := [], ret := retK calc_Mul.d } : Env)).ret }
def calc_Mul.J12 (M : Mach) (C : Call) (u1 u2 : Int) (u3 : Bool) (G : GH) : Option Res := M.j (execC M.j C (M.ag C) calc_Mul.c12 (calc_Mul.e14 M C) (calc_Mul.k27 M C)) [.v (.c (.int .i64 u1)), .v (.c (.int .i64 u2)), .und, .und, .und, .und, .und, .v (.c (.bool u3)), .und, .und, .und, .und, .und, .und, .und, .und, .und, .und, .und, .und, .und, .und, .und, .und, .und, .und, .und, .und, .und, .und, .und, .und, .und, .und, .und, .und, .und, .und, .und, .und, .und] G
def calc_Mul.J10 (M : Mach) (C : Call) (u1 u2 : Int) (u3 : Bool) (G : GH) : Option Res := M.j (execC M.j C (M.ag C) calc_Mul.c10 (calc_Mul.e14 M C) (calc_Mul.k27 M C)) [.v (.c (.int .i64 u1)), .v (.c (.int .i64 u2)), .und, .und, .und, .und, .und, .und, .und, .und, .und, .und, .und, .und, .v (.c (.bool u3)), .und, .und, .und, .und, .und, .und, .und, .und, .und, .und, .und, .und, .und, .und, .und, .und, .und, .und, .und, .und, .und, .und, .und, .und, .und, .und] G
theorem calc_Mul.J12_eq (M : Mach) (C : Call) (u1 u2 : Int) (u3 : Bool) (G : GH) : calc_Mul.J12 M C u1 u2 u3 G = (bif u3 then some ([.c (.int .i64 0), .c (.bool true)], G) else bif decide (u1 = (-1)) then bif decide (u2 = (-9223372036854775808)) then calc_Mul.J10 M C u1 u2 true G else bif decide (u2 = (-1)) then calc_Mul.J10 M C u1 u2 (decide (u1 = (-9223372036854775808))) G else calc_Mul.J10 M C u1 u2 false G else bif decide (u2 = (-1)) then calc_Mul.J10 M C u1 u2 (decide (u1 = (-9223372036854775808))) G else calc_Mul.J10 M C u1 u2 false G) := (M.hj _ _ _).trans (by kernel_rfl)
theorem calc_Mul.J10_eq (M : Mach) (C : Call) (u1 u2 : Int) (u3 : Bool) (G : GH) : calc_Mul.J10 M C u1 u2 u3 G = (bif u3 then some ([.c (.int .i64 0), .c (.bool false)], G) else (binD .quo .i64 (IntKind.i64.wrap (IntKind.u64.wrap ((IntKind.u64.wrap u1) * (IntKind.u64.wrap u2)))) u2).bind fun q1 => bif (!decide (q1 = u1)) then some ([.c (.int .i64 0), .c (.bool false)], G) else some ([.c (.int .i64 (IntKind.i64.wrap (IntKind.u64.wrap ((IntKind.u64.wrap u1) * (IntKind.u64.wrap u2))))), .c (.bool true)], G)) := (M.hj _ _ _).trans (by kernel_rfl)
def calc_Mul.f (M : Mach) (C : Call) (u1 u2 : Int) (G : GH) : Option Res := bif decide (u1 = 0) then calc_Mul.J12 M C u1 u2 true G else calc_Mul.J12 M C u1 u2 (decide (u2 = 0)) G
theorem calc_Mul.eq (M : Mach) (C : Call) (u1 u2 : Int) (G : GH) : runF M C calc_Mul.d [.c (.int .i64 u1), .c (.int .i64 u2)] G = calc_Mul.f M C u1 u2 G := by kernel_rfl

/- 64 hodman/hodmanref8.Pages -/
def hodmanref8_Pages.c6 : DCode := (.cond (.t 19) (.seq (.region [⟨0, some 6, .move (.k (.c (.int .i64 0))), none⟩,
    ⟨1, some 7, .move (.k (.c (.int .i64 0))), none⟩]) .ret) .skip)
def hodmanref8_Pages.c23 : DCode := (.seq (.region [⟨0, some 37, .move (.t 1), none⟩,
    ⟨1, some 38, .move (.t 0), none⟩,
    ⟨2, some 39, .bin .quo .i64 (.t 37) (.t 38), none⟩,
    ⟨3, some 40, .move (.t 8), none⟩,
    ⟨4, some 41, .move (.t 0), none⟩,
    ⟨5, some 42, .bin .quo .i64 (.t 40) (.t 41), none⟩,
    ⟨6, some 43, .bin .add .i64 (.t 42) (.k (.c (.int .i64 1))), none⟩,
    ⟨7, some 6, .move (.t 39), none⟩,
    ⟨8, some 7, .move (.t 43), none⟩]) .ret)
def hodmanref8_Pages.c26 : DCode := (.seq (.seq (.region [⟨0, some 20, .move (.t 2), none⟩,
    ⟨1, some 21, .cmp .eql .i64 (.t 20) (.k (.c (.int .i64 0))), none⟩]) (.cond (.t 21) (.seq (.region [⟨0, some 22, .move (.t 1), none⟩,
    ⟨1, some 23, .move (.t 0), none⟩,
    ⟨2, some 24, .bin .quo .i64 (.t 22) (.t 23), none⟩,
    ⟨3, some 25, .move (.t 1), none⟩,
    ⟨4, some 26, .move (.t 0), none⟩,
    ⟨5, some 27, .bin .quo .i64 (.t 25) (.t 26), none⟩,
    ⟨6, some 6, .move (.t 24), none⟩,
    ⟨7, some 7, .move (.t 27), none⟩]) .ret) .skip)) (.seq (.region [⟨0, some 29, .move (.t 1), none⟩,
    ⟨1, some 30, .move (.t 2), none⟩,
    ⟨2, some 31, .bin .sub .i64 (.t 30) (.k (.c (.int .i64 1))), none⟩,
    ⟨3, some 32, .call 61 [.t 29, .t 31] [.c (.int .i64), .c (.bool)], none⟩,
    ⟨4, some 28, .move (.t 32), none⟩,
    ⟨5, some 33, .ext 28 0, none⟩,
    ⟨6, some 34, .ext 28 1, none⟩,
    ⟨7, some 8, .move (.t 33), none⟩,
    ⟨8, some 9, .move (.t 34), none⟩]) (.seq (.seq (.region [⟨0, some 35, .move (.t 9), none⟩,
    ⟨1, some 36, .not (.t 35), none⟩]) (.cond (.t 36) (.region [⟨0, some 8, .move (.k (.c (.int .i64 9223372036854775807))), none⟩]) .skip)) (.cut [0, 1, 8] hodmanref8_Pages.c23))))
def hodmanref8_Pages.d : DFn := { ntmps := 44, res := [.t 6, .t 7], body := (.seq (.region [⟨0, some 6, .move (.k (.c (.int .i64 0))), none⟩,
    ⟨1, some 7, .move (.k (.c (.int .i64 0))), none⟩]) (.seq (.seq (.region [⟨0, some 10, .move (.t 0), none⟩,
    ⟨1, some 11, .cmp .lss .i64 (.t 10) (.k (.c (.int .i64 1))), none⟩,
    ⟨2, some 12, .move (.t 11), none⟩,
    ⟨3, some 13, .move (.t 1), some (12, false)⟩,
    ⟨4, some 14, .cmp .lss .i64 (.t 13) (.k (.c (.int .i64 0))), some (12, false)⟩,
    ⟨5, some 15, .pick (.t 12) (.k (.c (.bool true))) (.t 14), none⟩,
    ⟨6, some 16, .move (.t 15), none⟩,
    ⟨7, some 17, .move (.t 2), some (16, false)⟩,
    ⟨8, some 18, .cmp .lss .i64 (.t 17) (.k (.c (.int .i64 0))), some (16, false)⟩,
    ⟨9, some 19, .pick (.t 16) (.k (.c (.bool true))) (.t 18), none⟩]) (.cut [0, 1, 2, 19] hodmanref8_Pages.c6)) hodmanref8_Pages.c26)) }
def hodmanref8_Pages.k26 (M : Mach) (C : Call) : Kont := execC M.j C (M.ag C) hodmanref8_Pages.c26 ({ exits := [], ret := retK hodmanref8_Pages.d } : Env) (retK hodmanref8_Pages.d)
def hodmanref8_Pages.J6 (M : Mach) (C : Call) (u1 u2 u3 : Int) (u4 : Bool) (G : GH) : Option Res := M.j (execC M.j C (M.ag C) hodmanref8_Pages.c6 ({ exits := [], ret := retK hodmanref8_Pages.d } : Env) (hodmanref8_Pages.k26 M C)) [.v (.c (.int .i64 u1)), .v (.c (.int .i64 u2)), .v (.c (.int .i64 u3)), .und, .und, .und, .und, .und, .und, .und, .und, .und, .und, .und, .und, .und, .und, .und, .und, .v (.c (.bool u4)), .und, .und, .und, .und, .und, .und, .und, .und, .und, .und, .und, .und, .und, .und, .und, .und, .und, .und, .und, .und, .und, .und, .und, .und] G
def hodmanref8_Pages.J23 (M : Mach) (C : Call) (u1 u2 u3 : Int) (G : GH) : Option Res := M.j (execC M.j C (M.ag C) hodmanref8_Pages.c23 ({ exits := [], ret := retK hodmanref8_Pages.d } : Env) (retK hodmanref8_Pages.d)) [.v (.c (.int .i64 u1)), .v (.c (.int .i64 u2)), .und, .und, .und, .und, .und, .und, .v (.c (.int .i64 u3)), .und, .und, .und, .und, .und, .und, .und, .und, .und, .und, .und, .und, .und, .und, .und, .und, .und, .und, .und, .und, .und, .und, .und, .und, .und, .und, .und, .und, .und, .und, .und, .und, .und, .und, .und] G
theorem hodmanref8_Pages.J6_eq (M : Mach) (C : Call) (u1 u2 u3 : Int) (u4 : Bool) (G : GH) : hodmanref8_Pages.J6 M C u1 u2 u3 u4 G = (bif u4 then some ([.c (.int .i64 0), .c (.int .i64 0)], G) else bif decide (u3 = 0) then (binD .quo .i64 u2 u1).bind fun q1 => (binD .quo .i64 u2 u1).bind fun q2 => some ([.c (.int .i64 q1), .c (.int .i64 q2)], G) else (C hodmanref1_Add.id [.c (.int .i64 u2), .c (.int .i64 (IntKind.i64.wrap (u3 - 1)))] G).bind fun q3 => (((q3.1[0]?).bind V1.c?).bind (Cell.asI .i64)).bind fun q4 => (((q3.1[1]?).bind V1.c?).bind Cell.asB).bind fun q5 => bif (!q5) then hodmanref8_Pages.J23 M C u1 u2 9223372036854775807 q3.2 else hodmanref8_Pages.J23 M C u1 u2 q4 q3.2) := (M.hj _ _ _).trans (by kernel_rfl)
theorem hodmanref8_Pages.J23_eq (M : Mach) (C : Call) (u1 u2 u3 : Int) (G : GH) : hodmanref8_Pages.J23 M C u1 u2 u3 G = ((binD .quo .i64 u2 u1).bind fun q6 => (binD .quo .i64 u3 u1).bind fun q7 => some ([.c (.int .i64 q6), .c (.int .i64 (IntKind.i64.wrap (q7 + 1)))], G)) := (M.hj _ _ _).trans (by kernel_rfl)
def hodmanref8_Pages.f (M : Mach) (C : Call) (u1 u2 u3 : Int) (G : GH) : Option Res := bif decide (u1 < 1) then hodmanref8_Pages.J6 M C u1 u2 u3 true G else bif decide (u2 < 0) then hodmanref8_Pages.J6 M C u1 u2 u3 true G else hodmanref8_Pages.J6 M C u1 u2 u3 (decide (u3 < 0)) G
theorem hodmanref8_Pages.eq (M : Mach) (C : Call) (u1 u2 u3 : Int) (G : GH) : runF M C hodmanref8_Pages.d [.c (.int .i64 u1), .c (.int .i64 u2), .c (.int .i64 u3)] G = hodmanref8_Pages.f M C u1 u2 u3 G := by kernel_rfl

/- 56 (*hodman/same.reader).charge -/
def same_reader_charge.c18 : DCode := (.seq (.region [⟨0, some 32, .move (.t 0), none⟩,
    ⟨1, some 33, .nilck (.t 32), none⟩,
    ⟨2, some 34, .faddr 33 0, none⟩,
    ⟨3, some 35, .ldG 34 (.agg [.int .i64, .int .i64, .int .i64, .int .i64, .int .i64, .int .i64, .int .i64, .int .i64]), none⟩,
    ⟨4, some 36, .move (.t 5), none⟩,
    ⟨5, some 37, .move (.t 6), none⟩,
    ⟨6, some 38, .call 70 [.t 35, .t 36, .t 37] [.c (.int .i64), .c (.int .i64)], none⟩,
    ⟨7, some 31, .move (.t 38), none⟩,
    ⟨8, some 39, .ext 31 0, none⟩,
    ⟨9, some 40, .ext 31 1, none⟩,
    ⟨10, some 7, .move (.t 39), none⟩,
    ⟨11, some 8, .move (.t 40), none⟩]) (.seq (.region [⟨0, some 41, .move (.t 7), none⟩,
    ⟨1, some 4, .move (.t 41), none⟩]) .ret))
def same_reader_charge.d : DFn := { ntmps := 43, res := [.t 4], body := (.seq (.region [⟨0, some 3, .boxv 42 [9, 11, 20, 22, 29] (.t 1) 6, none⟩,
    ⟨1, some 4, .move (.k (.c (.int .i64 0))), none⟩]) (.seq (.region [⟨0, some 9, .faddr 3 2, none⟩,
    ⟨1, some 10, .ldL 9 42 (.c (.int .i64)), none⟩,
    ⟨2, some 5, .move (.t 10), none⟩,
    ⟨3, some 6, .move (.k (.c (.int .i64 1))), none⟩]) (.seq (.seq (.region [⟨0, some 11, .faddr 3 0, none⟩,
    ⟨1, some 12, .ldL 11 42 (.c (.int .i64)), none⟩]) (.block 0 (.seq (.region [⟨0, some 14, .cmp .eql .i64 (.t 12) (.k (.c (.int .i64 2))), none⟩,
    ⟨1, some 13, .move (.t 14), none⟩]) (.cond (.t 13) (.region [⟨0, some 16, .move (.t 0), none⟩,
    ⟨1, some 17, .nilck (.t 16), none⟩,
    ⟨2, some 18, .faddr 17 0, none⟩,
    ⟨3, some 19, .ldG 18 (.agg [.int .i64, .int .i64, .int .i64, .int .i64, .int .i64, .int .i64, .int .i64, .int .i64]), none⟩,
    ⟨4, some 20, .faddr 3 4, none⟩,
    ⟨5, some 21, .ldL 20 42 (.c (.int .i64)), none⟩,
    ⟨6, some 22, .faddr 3 2, none⟩,
    ⟨7, some 23, .ldL 22 42 (.c (.int .i64)), none⟩,
    ⟨8, some 24, .call 46 [.t 19, .t 21, .t 23] [.c (.int .i64), .c (.int .i64)], none⟩,
    ⟨9, some 15, .move (.t 24), none⟩,
    ⟨10, some 25, .ext 15 0, none⟩,
    ⟨11, some 26, .ext 15 1, none⟩,
    ⟨12, some 5, .move (.t 25), none⟩]) (.seq (.region [⟨0, some 28, .cmp .eql .i64 (.t 12) (.k (.c (.int .i64 3))), none⟩,
    ⟨1, some 27, .move (.t 28), none⟩]) (.cond (.t 27) (.region [⟨0, some 29, .faddr 3 3, none⟩,
    ⟨1, some 30, .ldL 29 42 (.c (.int .i64)), none⟩,
    ⟨2, some 6, .move (.t 30), none⟩]) .skip)))))) (.cut [0, 5, 6] same_reader_charge.c18)))) }
def same_reader_charge.J18 (M : Mach) (C : Call) (u1i u1o : Nat) (u2 u3 : Int) (G : GH) : Option Res := M.j (execC M.j C (M.ag C) same_reader_charge.c18 ({ exits := [], ret := retK same_reader_charge.d } : Env) (retK same_reader_charge.d)) [.v (.c (.ptr u1i u1o)), .und, .und, .und, .und, .v (.c (.int .i64 u2)), .v (.c (.int .i64 u3)), .und, .und, .und, .und, .und, .und, .und, .und, .und, .und, .und, .und, .und, .und, .und, .und, .und, .und, .und, .und, .und, .und, .und, .und, .und, .und, .und, .und, .und, .und, .und, .und, .und, .und, .und, .und] G
theorem same_reader_charge.J18_eq (M : Mach) (C : Call) (u1i u1o : Nat) (u2 u3 : Int) (G : GH) : same_reader_charge.J18 M C u1i u1o u2 u3 G = (guardK (!Nat.beq u1i 0) (((G.ld u1i ((u1o + 0) + 0)).bind (Cell.asI .i64)).bind fun q12 => ((G.ld u1i ((u1o + 0) + 1)).bind (Cell.asI .i64)).bind fun q13 => ((G.ld u1i ((u1o + 0) + 2)).bind (Cell.asI .i64)).bind fun q14 => ((G.ld u1i ((u1o + 0) + 3)).bind (Cell.asI .i64)).bind fun q15 => ((G.ld u1i ((u1o + 0) + 4)).bind (Cell.asI .i64)).bind fun q16 => ((G.ld u1i ((u1o + 0) + 5)).bind (Cell.asI .i64)).bind fun q17 => ((G.ld u1i ((u1o + 0) + 6)).bind (Cell.asI .i64)).bind fun q18 => ((G.ld u1i ((u1o + 0) + 7)).bind (Cell.asI .i64)).bind fun q19 => (C class_Charge.id [.agg [.int .i64 q12, .int .i64 q13, .int .i64 q14, .int .i64 q15, .int .i64 q16, .int .i64 q17, .int .i64 q18, .int .i64 q19], .c (.int .i64 u2), .c (.int .i64 u3)] G).bind fun q20 => (((q20.1[0]?).bind V1.c?).bind (Cell.asI .i64)).bind fun q21 => (((q20.1[1]?).bind V1.c?).bind (Cell.asI .i64)).bind fun q22 => some ([.c (.int .i64 q21)], q20.2))) := (M.hj _ _ _).trans (by kernel_rfl)
def same_reader_charge.f (M : Mach) (C : Call) (u1i u1o : Nat) (u2 u3 u4 u5 u6 u7 : Int) (G : GH) : Option Res := bif decide (u2 = 2) then guardK (!Nat.beq u1i 0) (((G.ld u1i ((u1o + 0) + 0)).bind (Cell.asI .i64)).bind fun q1 => ((G.ld u1i ((u1o + 0) + 1)).bind (Cell.asI .i64)).bind fun q2 => ((G.ld u1i ((u1o + 0) + 2)).bind (Cell.asI .i64)).bind fun q3 => ((G.ld u1i ((u1o + 0) + 3)).bind (Cell.asI .i64)).bind fun q4 => ((G.ld u1i ((u1o + 0) + 4)).bind (Cell.asI .i64)).bind fun q5 => ((G.ld u1i ((u1o + 0) + 5)).bind (Cell.asI .i64)).bind fun q6 => ((G.ld u1i ((u1o + 0) + 6)).bind (Cell.asI .i64)).bind fun q7 => ((G.ld u1i ((u1o + 0) + 7)).bind (Cell.asI .i64)).bind fun q8 => (C class_Product.id [.agg [.int .i64 q1, .int .i64 q2, .int .i64 q3, .int .i64 q4, .int .i64 q5, .int .i64 q6, .int .i64 q7, .int .i64 q8], .c (.int .i64 u6), .c (.int .i64 u4)] G).bind fun q9 => (((q9.1[0]?).bind V1.c?).bind (Cell.asI .i64)).bind fun q10 => (((q9.1[1]?).bind V1.c?).bind (Cell.asI .i64)).bind fun q11 => same_reader_charge.J18 M C u1i u1o q10 1 q9.2) else bif decide (u2 = 3) then same_reader_charge.J18 M C u1i u1o u4 u5 G else same_reader_charge.J18 M C u1i u1o u4 1 G
theorem same_reader_charge.eq (M : Mach) (C : Call) (u1i u1o : Nat) (u2 u3 u4 u5 u6 u7 : Int) (G : GH) : runF M C same_reader_charge.d [.c (.ptr u1i u1o), .agg [.int .i64 u2, .int .i64 u3, .int .i64 u4, .int .i64 u5, .int .i64 u6, .int .u8 u7]] G = same_reader_charge.f M C u1i u1o u2 u3 u4 u5 u6 u7 G := by kernel_rfl

/- 23 hodman/hodmanref17.SameAns -/
def hodmanref17_SameAns.c24 : DCode := (.seq (.seq (.region [⟨0, some 11, .move (.t 5), none⟩,
    ⟨1, some 12, .move (.t 0), none⟩,
    ⟨2, some 13, .len (.t 12), none⟩,
    ⟨3, some 14, .cmp .lss .i64 (.t 11) (.t 13), none⟩]) (.cond (.t 14) .skip (.exit 0))) (.seq (.block 1 (.seq (.region [⟨0, some 17, .move (.t 0), none⟩,
    ⟨1, some 18, .move (.t 5), none⟩,
    ⟨2, some 19, .iaddr (.t 17) (.t 18) 8, none⟩,
    ⟨3, some 20, .ldG 19 (.agg [.int .i64, .int .i64, .int .i64, .int .u8, .int .i64, .int .i64, .int .i64, .int .i64]), none⟩,
    ⟨4, some 21, .move (.t 1), none⟩,
    ⟨5, some 22, .move (.t 5), none⟩,
    ⟨6, some 23, .iaddr (.t 21) (.t 22) 8, none⟩,
    ⟨7, some 24, .ldG 23 (.agg [.int .i64, .int .i64, .int .i64, .int .u8, .int .i64, .int .i64, .int .i64, .int .i64]), none⟩,
    ⟨8, some 25, .aeq true [.int .i64, .int .i64, .int .i64, .int .u8, .int .i64, .int .i64, .int .i64, .int .i64] (.t 20) (.t 24), none⟩]) (.cond (.t 25) (.seq (.region [⟨0, some 4, .move (.k (.c (.bool false))), none⟩]) .ret) .skip))) (.region [⟨0, some 15, .move (.t 5), none⟩,
    ⟨1, some 16, .bin .add .i64 (.t 15) (.k (.c (.int .i64 1))), none⟩,
    ⟨2, some 5, .move (.t 16), none⟩])))
def hodmanref17_SameAns.c30 : DCode := (.seq (.region [⟨0, some 4, .move (.k (.c (.bool true))), none⟩]) .ret)
def hodmanref17_SameAns.d : DFn := { ntmps := 26, res := [.t 4], body := (.seq (.region [⟨0, some 4, .move (.k (.c (.bool false))), none⟩]) (.seq (.seq (.region [⟨0, some 6, .move (.t 0), none⟩,
    ⟨1, some 7, .len (.t 6), none⟩,
    ⟨2, some 8, .move (.t 1), none⟩,
    ⟨3, some 9, .len (.t 8), none⟩,
    ⟨4, some 10, .cmp .neq .i64 (.t 7) (.t 9), none⟩]) (.cond (.t 10) (.seq (.region [⟨0, some 4, .move (.k (.c (.bool false))), none⟩]) .ret) .skip)) (.seq (.seq (.region [⟨0, some 5, .move (.k (.c (.int .i64 0))), none⟩]) (.block 0 (.loop [0, 1, 5] hodmanref17_SameAns.c24))) hodmanref17_SameAns.c30))) }
def hodmanref17_SameAns.k30 (M : Mach) (C : Call) : Kont := execC M.j C (M.ag C) hodmanref17_SameAns.c30 ({ exits := [], ret := retK hodmanref17_SameAns.d } : Env) (retK hodmanref17_SameAns.d)
def hodmanref17_SameAns.e26 (M : Mach) (C : Call) : Env := { exits := (0, (hodmanref17_SameAns.k30 M C)) :: (({ exits := [], ret := retK hodmanref17_SameAns.d } : Env)).exits, ret := (({ exits := [], ret := retK hodmanref17_SameAns.d } : Env)).ret }
def hodmanref17_SameAns.L25 (M : Mach) (C : Call) (u1i u1o u1n u2i u2o u2n : Nat) (u3 : Int) (G : GH) : Option Res := M.ag C [0, 1, 5] hodmanref17_SameAns.c24 (hodmanref17_SameAns.e26 M C) (hodmanref17_SameAns.k30 M C) [.v (.c (.sl 8 u1i u1o u1n)), .v (.c (.sl 8 u2i u2o u2n)), .und, .und, .und, .v (.c (.int .i64 u3)), .und, .und, .und, .und, .und, .und, .und, .und, .und, .und, .und, .und, .und, .und, .und, .und, .und, .und, .und, .und] G
theorem hodmanref17_SameAns.L25_eq (M : Mach) (C : Call) (u1i u1o u1n u2i u2o u2n : Nat) (u3 : Int) (G : GH) : hodmanref17_SameAns.L25 M C u1i u1o u1n u2i u2o u2n u3 G = (bif decide (u3 < ((u1n : Nat) : Int)) then guardK (decide (0 ≤ u3 ∧ u3 < ((u1n : Nat) : Int))) (((G.ld u1i ((u1o + Int.toNat u3 * 8) + 0)).bind (Cell.asI .i64)).bind fun q1 => ((G.ld u1i ((u1o + Int.toNat u3 * 8) + 1)).bind (Cell.asI .i64)).bind fun q2 => ((G.ld u1i ((u1o + Int.toNat u3 * 8) + 2)).bind (Cell.asI .i64)).bind fun q3 => ((G.ld u1i ((u1o + Int.toNat u3 * 8) + 3)).bind (Cell.asI .u8)).bind fun q4 => ((G.ld u1i ((u1o + Int.toNat u3 * 8) + 4)).bind (Cell.asI .i64)).bind fun q5 => ((G.ld u1i ((u1o + Int.toNat u3 * 8) + 5)).bind (Cell.asI .i64)).bind fun q6 => ((G.ld u1i ((u1o + Int.toNat u3 * 8) + 6)).bind (Cell.asI .i64)).bind fun q7 => ((G.ld u1i ((u1o + Int.toNat u3 * 8) + 7)).bind (Cell.asI .i64)).bind fun q8 => guardK (decide (0 ≤ u3 ∧ u3 < ((u2n : Nat) : Int))) (((G.ld u2i ((u2o + Int.toNat u3 * 8) + 0)).bind (Cell.asI .i64)).bind fun q9 => ((G.ld u2i ((u2o + Int.toNat u3 * 8) + 1)).bind (Cell.asI .i64)).bind fun q10 => ((G.ld u2i ((u2o + Int.toNat u3 * 8) + 2)).bind (Cell.asI .i64)).bind fun q11 => ((G.ld u2i ((u2o + Int.toNat u3 * 8) + 3)).bind (Cell.asI .u8)).bind fun q12 => ((G.ld u2i ((u2o + Int.toNat u3 * 8) + 4)).bind (Cell.asI .i64)).bind fun q13 => ((G.ld u2i ((u2o + Int.toNat u3 * 8) + 5)).bind (Cell.asI .i64)).bind fun q14 => ((G.ld u2i ((u2o + Int.toNat u3 * 8) + 6)).bind (Cell.asI .i64)).bind fun q15 => ((G.ld u2i ((u2o + Int.toNat u3 * 8) + 7)).bind (Cell.asI .i64)).bind fun q16 => bif Bool.xor true (decide (q1 = q9) && (decide (q2 = q10) && (decide (q3 = q11) && (decide (q4 = q12) && (decide (q5 = q13) && (decide (q6 = q14) && (decide (q7 = q15) && (decide (q8 = q16) && true)))))))) then some ([.c (.bool false)], G) else hodmanref17_SameAns.L25 M C u1i u1o u1n u2i u2o u2n (IntKind.i64.wrap (u3 + 1)) G)) else some ([.c (.bool true)], G)) := (M.hs _ _ _ _ _ _ _).trans (by kernel_rfl)
def hodmanref17_SameAns.f (M : Mach) (C : Call) (u1i u1o u1n u2i u2o u2n : Nat) (G : GH) : Option Res := bif (!decide (((u1n : Nat) : Int) = ((u2n : Nat) : Int))) then some ([.c (.bool false)], G) else hodmanref17_SameAns.L25 M C u1i u1o u1n u2i u2o u2n 0 G
theorem hodmanref17_SameAns.eq (M : Mach) (C : Call) (u1i u1o u1n u2i u2o u2n : Nat) (G : GH) : runF M C hodmanref17_SameAns.d [.c (.sl 8 u1i u1o u1n), .c (.sl 8 u2i u2o u2n)] G = hodmanref17_SameAns.f M C u1i u1o u1n u2i u2o u2n G := by kernel_rfl
end Go.Proofs.D
