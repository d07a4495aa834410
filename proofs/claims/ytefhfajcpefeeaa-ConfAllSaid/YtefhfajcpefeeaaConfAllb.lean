/- Texts of the proof (T0); no condition. -/
import Derived.Test.YtefhfajcpefeeaaConfAlla
import Derived.KernelRfl
set_option linter.unusedSimpArgs false
set_option linter.unusedVariables false
set_option linter.unusedVariables false
set_option maxRecDepth 100000
namespace Go.Proofs.D
open Go
/- 7 hodman/hodmanlaw2.ConfAll -/
def hodmanlaw2_ConfAll.c29 : DCode := (.cond (.t 62) (.seq (.region [⟨0, some 8, .move (.k (.c (.bool false))), none⟩]) .ret) .skip)
def hodmanlaw2_ConfAll.c55 : DCode := (.cond (.t 101) (.seq (.region [⟨0, some 8, .move (.k (.c (.bool false))), none⟩]) .ret) .skip)
def hodmanlaw2_ConfAll.c58 : DCode := (.seq (.region [⟨0, some 74, .ldL 13 124 (.agg [.int .i64, .int .i64, .int .i64, .int .i64, .int .i64, .int .i64, .int .i64, .int .i64]), none⟩,
    ⟨1, some 75, .move (.t 16), none⟩,
    ⟨2, some 76, .call 27 [.t 74, .t 75] [.c (.int .i64), .c (.bool)], none⟩,
    ⟨3, some 73, .move (.t 76), none⟩,
    ⟨4, some 77, .ext 73 0, none⟩,
    ⟨5, some 78, .ext 73 1, none⟩,
    ⟨6, some 17, .move (.t 77), none⟩,
    ⟨7, some 18, .move (.t 78), none⟩]) (.seq (.region [⟨0, some 80, .ldL 13 124 (.agg [.int .i64, .int .i64, .int .i64, .int .i64, .int .i64, .int .i64, .int .i64, .int .i64]), none⟩,
    ⟨1, some 81, .move (.t 16), none⟩,
    ⟨2, some 82, .call 22 [.t 80, .t 81] [.c (.int .i64), .c (.bool)], none⟩,
    ⟨3, some 79, .move (.t 82), none⟩,
    ⟨4, some 83, .ext 79 0, none⟩,
    ⟨5, some 84, .ext 79 1, none⟩,
    ⟨6, some 19, .move (.t 83), none⟩,
    ⟨7, some 20, .move (.t 84), none⟩]) (.seq (.region [⟨0, some 85, .ldL 13 124 (.agg [.int .i64, .int .i64, .int .i64, .int .i64, .int .i64, .int .i64, .int .i64, .int .i64]), none⟩,
    ⟨1, some 86, .move (.t 16), none⟩,
    ⟨2, some 87, .call 28 [.t 85, .t 86] [.c (.int .i64)], none⟩,
    ⟨3, some 88, .ldL 13 124 (.agg [.int .i64, .int .i64, .int .i64, .int .i64, .int .i64, .int .i64, .int .i64, .int .i64]), none⟩,
    ⟨4, some 89, .move (.t 16), none⟩,
    ⟨5, some 90, .call 29 [.t 88, .t 89] [.c (.int .i64)], none⟩,
    ⟨6, some 91, .cmp .neq .i64 (.t 87) (.t 90), none⟩,
    ⟨7, some 92, .move (.t 91), none⟩,
    ⟨8, some 93, .move (.t 17), some (92, false)⟩,
    ⟨9, some 94, .move (.t 19), some (92, false)⟩,
    ⟨10, some 95, .cmp .neq .i64 (.t 93) (.t 94), some (92, false)⟩,
    ⟨11, some 96, .pick (.t 92) (.k (.c (.bool true))) (.t 95), none⟩,
    ⟨12, some 97, .move (.t 96), none⟩,
    ⟨13, some 98, .move (.t 18), some (97, false)⟩,
    ⟨14, some 99, .move (.t 20), some (97, false)⟩,
    ⟨15, some 100, .beq true (.t 98) (.t 99), some (97, false)⟩,
    ⟨16, some 101, .pick (.t 97) (.k (.c (.bool true))) (.t 100), none⟩]) (.cut [2, 3, 9, 10, 13, 15, 101, 124] hodmanlaw2_ConfAll.c55))))
def hodmanlaw2_ConfAll.c62 : DCode := (.region [⟨0, some 67, .move (.t 15), none⟩,
    ⟨1, some 68, .bin .add .i64 (.t 67) (.k (.c (.int .i64 1))), none⟩,
    ⟨2, some 15, .move (.t 68), none⟩])
def hodmanlaw2_ConfAll.c64 : DCode := (.seq (.seq (.region [⟨0, some 65, .move (.t 15), none⟩,
    ⟨1, some 66, .cmp .lss .i64 (.t 65) (.k (.c (.int .i64 20))), none⟩]) (.cond (.t 66) .skip (.exit 2))) (.seq (.block 3 (.seq (.region [⟨0, some 69, .move (.t 15), none⟩,
    ⟨1, some 16, .move (.t 69), none⟩]) (.seq (.seq (.region [⟨0, some 70, .move (.t 15), none⟩,
    ⟨1, some 71, .cmp .lss .i64 (.t 70) (.k (.c (.int .i64 0))), none⟩]) (.cond (.t 71) (.region [⟨0, some 72, .move (.t 2), none⟩,
    ⟨1, some 16, .move (.t 72), none⟩]) .skip)) (.cut [2, 3, 9, 10, 13, 15, 16, 124] hodmanlaw2_ConfAll.c58)))) hodmanlaw2_ConfAll.c62))
def hodmanlaw2_ConfAll.c65 : DCode := (.loop [2, 3, 9, 10, 13, 15, 124] hodmanlaw2_ConfAll.c64)
def hodmanlaw2_ConfAll.c75 : DCode := (.cond (.t 121) (.seq (.region [⟨0, some 8, .move (.k (.c (.bool false))), none⟩]) .ret) .skip)
def hodmanlaw2_ConfAll.c78 : DCode := (.seq (.region [⟨0, some 103, .ldL 13 124 (.agg [.int .i64, .int .i64, .int .i64, .int .i64, .int .i64, .int .i64, .int .i64, .int .i64]), none⟩,
    ⟨1, some 104, .move (.t 3), none⟩,
    ⟨2, some 105, .call 27 [.t 103, .t 104] [.c (.int .i64), .c (.bool)], none⟩,
    ⟨3, some 102, .move (.t 105), none⟩,
    ⟨4, some 106, .ext 102 0, none⟩,
    ⟨5, some 107, .ext 102 1, none⟩,
    ⟨6, some 21, .move (.t 106), none⟩,
    ⟨7, some 22, .move (.t 107), none⟩]) (.seq (.region [⟨0, some 109, .ldL 13 124 (.agg [.int .i64, .int .i64, .int .i64, .int .i64, .int .i64, .int .i64, .int .i64, .int .i64]), none⟩,
    ⟨1, some 110, .move (.t 3), none⟩,
    ⟨2, some 111, .call 22 [.t 109, .t 110] [.c (.int .i64), .c (.bool)], none⟩,
    ⟨3, some 108, .move (.t 111), none⟩,
    ⟨4, some 112, .ext 108 0, none⟩,
    ⟨5, some 113, .ext 108 1, none⟩,
    ⟨6, some 23, .move (.t 112), none⟩,
    ⟨7, some 24, .move (.t 113), none⟩]) (.seq (.region [⟨0, some 114, .move (.t 21), none⟩,
    ⟨1, some 115, .move (.t 23), none⟩,
    ⟨2, some 116, .cmp .neq .i64 (.t 114) (.t 115), none⟩,
    ⟨3, some 117, .move (.t 116), none⟩,
    ⟨4, some 118, .move (.t 22), some (117, false)⟩,
    ⟨5, some 119, .move (.t 24), some (117, false)⟩,
    ⟨6, some 120, .beq true (.t 118) (.t 119), some (117, false)⟩,
    ⟨7, some 121, .pick (.t 117) (.k (.c (.bool true))) (.t 120), none⟩]) (.cut [2, 3, 9, 10, 121] hodmanlaw2_ConfAll.c75))))
def hodmanlaw2_ConfAll.c80 : DCode := (.seq (.seq (.region [⟨0, some 63, .move (.t 14), none⟩,
    ⟨1, some 64, .cmp .neq .i64 (.t 63) (.k (.c (.int .i64 0))), none⟩]) (.cond (.t 64) (.exit 1) .skip)) (.seq (.seq (.region [⟨0, some 15, .move (.k (.c (.int .i64 (-1)))), none⟩]) (.block 2 hodmanlaw2_ConfAll.c65)) hodmanlaw2_ConfAll.c78))
def hodmanlaw2_ConfAll.c85 : DCode := (.region [⟨0, some 37, .move (.t 10), none⟩,
    ⟨1, some 38, .bin .add .i64 (.t 37) (.k (.c (.int .i64 1))), none⟩,
    ⟨2, some 10, .move (.t 38), none⟩])
def hodmanlaw2_ConfAll.c87 : DCode := (.seq (.seq (.region [⟨0, some 35, .move (.t 10), none⟩,
    ⟨1, some 36, .cmp .lss .i64 (.t 35) (.k (.c (.int .i64 2))), none⟩]) (.cond (.t 36) .skip (.exit 0))) (.seq (.block 1 (.seq (.region [⟨0, some 40, .move (.t 9), none⟩,
    ⟨1, some 41, .move (.t 10), none⟩,
    ⟨2, some 42, .iaddr (.t 40) (.t 41) 6, none⟩,
    ⟨3, some 43, .ldG 42 (.agg [.int .i64, .int .i64, .int .i64, .int .i64, .int .i64, .int .i64]), none⟩,
    ⟨4, some 44, .call 26 [.t 43] [.agg [.int .i64, .int .i64, .int .i64, .int .i64, .int .i64, .int .i64, .int .i64, .int .i64], .c (.int .i64)], none⟩,
    ⟨5, some 39, .move (.t 44), none⟩,
    ⟨6, some 45, .ext 39 0, none⟩,
    ⟨7, some 46, .ext 39 1, none⟩,
    ⟨8, some 11, .boxz 123 [] [.int .i64 0, .int .i64 0, .int .i64 0, .int .i64 0, .int .i64 0, .int .i64 0, .int .i64 0, .int .i64 0], none⟩,
    ⟨9, none, .stL 11 123 (.t 45) 8, none⟩,
    ⟨10, some 12, .move (.t 46), none⟩]) (.seq (.region [⟨0, some 48, .move (.t 9), none⟩,
    ⟨1, some 49, .move (.t 10), none⟩,
    ⟨2, some 50, .iaddr (.t 48) (.t 49) 6, none⟩,
    ⟨3, some 51, .ldG 50 (.agg [.int .i64, .int .i64, .int .i64, .int .i64, .int .i64, .int .i64]), none⟩,
    ⟨4, some 52, .call 23 [.t 51] [.agg [.int .i64, .int .i64, .int .i64, .int .i64, .int .i64, .int .i64, .int .i64, .int .i64], .c (.int .i64)], none⟩,
    ⟨5, some 47, .move (.t 52), none⟩,
    ⟨6, some 53, .ext 47 0, none⟩,
    ⟨7, some 54, .ext 47 1, none⟩,
    ⟨8, some 13, .boxz 124 [] [.int .i64 0, .int .i64 0, .int .i64 0, .int .i64 0, .int .i64 0, .int .i64 0, .int .i64 0, .int .i64 0], none⟩,
    ⟨9, none, .stL 13 124 (.t 53) 8, none⟩,
    ⟨10, some 14, .move (.t 54), none⟩]) (.seq (.seq (.region [⟨0, some 55, .ldL 11 123 (.agg [.int .i64, .int .i64, .int .i64, .int .i64, .int .i64, .int .i64, .int .i64, .int .i64]), none⟩,
    ⟨1, some 56, .ldL 13 124 (.agg [.int .i64, .int .i64, .int .i64, .int .i64, .int .i64, .int .i64, .int .i64, .int .i64]), none⟩,
    ⟨2, some 57, .aeq true [.int .i64, .int .i64, .int .i64, .int .i64, .int .i64, .int .i64, .int .i64, .int .i64] (.t 55) (.t 56), none⟩,
    ⟨3, some 58, .move (.t 57), none⟩,
    ⟨4, some 59, .move (.t 12), some (58, false)⟩,
    ⟨5, some 60, .move (.t 14), some (58, false)⟩,
    ⟨6, some 61, .cmp .neq .i64 (.t 59) (.t 60), some (58, false)⟩,
    ⟨7, some 62, .pick (.t 58) (.k (.c (.bool true))) (.t 61), none⟩]) (.cut [2, 3, 9, 10, 13, 14, 62, 124] hodmanlaw2_ConfAll.c29)) hodmanlaw2_ConfAll.c80)))) (.cut [2, 3, 9, 10] hodmanlaw2_ConfAll.c85)))
def hodmanlaw2_ConfAll.c88 : DCode := (.loop [2, 3, 9, 10] hodmanlaw2_ConfAll.c87)
def hodmanlaw2_ConfAll.c93 : DCode := (.seq (.region [⟨0, some 8, .move (.k (.c (.bool true))), none⟩]) .ret)
def hodmanlaw2_ConfAll.d : DFn := { ntmps := 125, res := [.t 8], body := (.seq (.region [⟨0, some 4, .boxv 122 [] (.t 0) 6, none⟩,
    ⟨1, some 8, .move (.k (.c (.bool false))), none⟩]) (.seq (.seq (.region [⟨0, some 25, .call 24 [] [.c (.bool)], none⟩,
    ⟨1, some 26, .not (.t 25), none⟩]) (.cond (.t 26) (.seq (.region [⟨0, some 8, .move (.k (.c (.bool false))), none⟩]) .ret) .skip)) (.seq (.seq (.region [⟨0, some 27, .move (.t 1), none⟩,
    ⟨1, some 28, .len (.t 27), none⟩,
    ⟨2, some 29, .cmp .gtr .i64 (.t 28) (.k (.c (.int .i64 6))), none⟩]) (.cond (.t 29) (.seq (.region [⟨0, some 8, .move (.k (.c (.bool true))), none⟩]) .ret) .skip)) (.seq (.region [⟨0, some 30, .ldL 4 122 (.agg [.int .i64, .int .i64, .int .i64, .int .i64, .int .i64, .int .i64]), none⟩,
    ⟨1, some 31, .move (.t 1), none⟩,
    ⟨2, some 32, .call 15 [.t 31] [.c (.ptr)], none⟩,
    ⟨3, some 33, .call 25 [.t 32, .k (.c (.bool false))] [.agg [.int .i64, .int .i64, .int .i64, .int .i64, .int .i64, .int .i64]], none⟩,
    ⟨4, some 34, .bslice 2 6 [.int .i64 0, .int .i64 0, .int .i64 0, .int .i64 0, .int .i64 0, .int .i64 0, .int .i64 0, .int .i64 0, .int .i64 0, .int .i64 0, .int .i64 0, .int .i64 0] [(0, 6, .t 30), (6, 6, .t 33)], none⟩,
    ⟨5, some 9, .move (.t 34), none⟩]) (.seq (.seq (.region [⟨0, some 10, .move (.k (.c (.int .i64 0))), none⟩]) (.block 0 hodmanlaw2_ConfAll.c88)) hodmanlaw2_ConfAll.c93))))) }
def hodmanlaw2_ConfAll.k93 (M : Mach) (C : Call) : Kont := execC M.j C (M.ag C) hodmanlaw2_ConfAll.c93 ({ exits := [], ret := retK hodmanlaw2_ConfAll.d } : Env) (retK hodmanlaw2_ConfAll.d)
def hodmanlaw2_ConfAll.e89 (M : Mach) (C : Call) : Env := { exits := (0, (hodmanlaw2_ConfAll.k93 M C)) :: (({ exits := [], ret := retK hodmanlaw2_ConfAll.d } : Env)).exits, ret := (({ exits := [], ret := retK hodmanlaw2_ConfAll.d } : Env)).ret }
def hodmanlaw2_ConfAll.L88 (M : Mach) (C : Call) (class2 : Int) (charge3 : Int) (l9i : Nat) (l9o : Nat) (l9n : Nat) (i10 : Int) (G : GH) : Option Res := M.ag C [2, 3, 9, 10] hodmanlaw2_ConfAll.c87 (hodmanlaw2_ConfAll.e89 M C) (hodmanlaw2_ConfAll.k93 M C) [.und, .und, .v (.c (.int .i64 class2)), .v (.c (.int .i64 charge3)), .und, .und, .und, .und, .und, .v (.c (.sl 6 l9i l9o l9n)), .v (.c (.int .i64 i10)), .und, .und, .und, .und, .und, .und, .und, .und, .und, .und, .und, .und, .und, .und, .und, .und, .und, .und, .und, .und, .und, .und, .und, .und, .und, .und, .und, .und, .und, .und, .und, .und, .und, .und, .und, .und, .und, .und, .und, .und, .und, .und, .und, .und, .und, .und, .und, .und, .und, .und, .und, .und, .und, .und, .und, .und, .und, .und, .und, .und, .und, .und, .und, .und, .und, .und, .und, .und, .und, .und, .und, .und, .und, .und, .und, .und, .und, .und, .und, .und, .und, .und, .und, .und, .und, .und, .und, .und, .und, .und, .und, .und, .und, .und, .und, .und, .und, .und, .und, .und, .und, .und, .und, .und, .und, .und, .und, .und, .und, .und, .und, .und, .und, .und] G
def hodmanlaw2_ConfAll.k88 (M : Mach) (C : Call) : Kont := fun tm G => M.ag C [2, 3, 9, 10] hodmanlaw2_ConfAll.c87 (hodmanlaw2_ConfAll.e89 M C) (hodmanlaw2_ConfAll.k93 M C) (restr [2, 3, 9, 10] 0 tm) G
def hodmanlaw2_ConfAll.k85 (M : Mach) (C : Call) : Kont := execC M.j C (M.ag C) (.cut [2, 3, 9, 10] hodmanlaw2_ConfAll.c85) (hodmanlaw2_ConfAll.e89 M C) (hodmanlaw2_ConfAll.k88 M C)
def hodmanlaw2_ConfAll.e84 (M : Mach) (C : Call) : Env := { exits := (1, (hodmanlaw2_ConfAll.k85 M C)) :: ((hodmanlaw2_ConfAll.e89 M C)).exits, ret := ((hodmanlaw2_ConfAll.e89 M C)).ret }
def hodmanlaw2_ConfAll.k80 (M : Mach) (C : Call) : Kont := execC M.j C (M.ag C) hodmanlaw2_ConfAll.c80 (hodmanlaw2_ConfAll.e84 M C) (hodmanlaw2_ConfAll.k85 M C)
def hodmanlaw2_ConfAll.J29 (M : Mach) (C : Call) (class2 : Int) (charge3 : Int) (l9i : Nat) (l9o : Nat) (l9n : Nat) (i10 : Int) (f14 : Int) (t62 : Bool) (b124_0 : Int) (b124_1 : Int) (b124_2 : Int) (b124_3 : Int) (b124_4 : Int) (b124_5 : Int) (b124_6 : Int) (b124_7 : Int) (G : GH) : Option Res := M.j (execC M.j C (M.ag C) hodmanlaw2_ConfAll.c29 (hodmanlaw2_ConfAll.e84 M C) (hodmanlaw2_ConfAll.k80 M C)) [.und, .und, .v (.c (.int .i64 class2)), .v (.c (.int .i64 charge3)), .und, .und, .und, .und, .und, .v (.c (.sl 6 l9i l9o l9n)), .v (.c (.int .i64 i10)), .und, .und, .ref 124 0, .v (.c (.int .i64 f14)), .und, .und, .und, .und, .und, .und, .und, .und, .und, .und, .und, .und, .und, .und, .und, .und, .und, .und, .und, .und, .und, .und, .und, .und, .und, .und, .und, .und, .und, .und, .und, .und, .und, .und, .und, .und, .und, .und, .und, .und, .und, .und, .und, .und, .und, .und, .und, .v (.c (.bool t62)), .und, .und, .und, .und, .und, .und, .und, .und, .und, .und, .und, .und, .und, .und, .und, .und, .und, .und, .und, .und, .und, .und, .und, .und, .und, .und, .und, .und, .und, .und, .und, .und, .und, .und, .und, .und, .und, .und, .und, .und, .und, .und, .und, .und, .und, .und, .und, .und, .und, .und, .und, .und, .und, .und, .und, .und, .und, .und, .und, .und, .und, .box [.int .i64 b124_0, .int .i64 b124_1, .int .i64 b124_2, .int .i64 b124_3, .int .i64 b124_4, .int .i64 b124_5, .int .i64 b124_6, .int .i64 b124_7]] G
def hodmanlaw2_ConfAll.k78 (M : Mach) (C : Call) : Kont := execC M.j C (M.ag C) hodmanlaw2_ConfAll.c78 (hodmanlaw2_ConfAll.e84 M C) (hodmanlaw2_ConfAll.k85 M C)
def hodmanlaw2_ConfAll.e66 (M : Mach) (C : Call) : Env := { exits := (2, (hodmanlaw2_ConfAll.k78 M C)) :: ((hodmanlaw2_ConfAll.e84 M C)).exits, ret := ((hodmanlaw2_ConfAll.e84 M C)).ret }
def hodmanlaw2_ConfAll.L65 (M : Mach) (C : Call) (class2 : Int) (charge3 : Int) (l9i : Nat) (l9o : Nat) (l9n : Nat) (i10 : Int) (k15 : Int) (b124_0 : Int) (b124_1 : Int) (b124_2 : Int) (b124_3 : Int) (b124_4 : Int) (b124_5 : Int) (b124_6 : Int) (b124_7 : Int) (G : GH) : Option Res := M.ag C [2, 3, 9, 10, 13, 15, 124] hodmanlaw2_ConfAll.c64 (hodmanlaw2_ConfAll.e66 M C) (hodmanlaw2_ConfAll.k78 M C) [.und, .und, .v (.c (.int .i64 class2)), .v (.c (.int .i64 charge3)), .und, .und, .und, .und, .und, .v (.c (.sl 6 l9i l9o l9n)), .v (.c (.int .i64 i10)), .und, .und, .ref 124 0, .und, .v (.c (.int .i64 k15)), .und, .und, .und, .und, .und, .und, .und, .und, .und, .und, .und, .und, .und, .und, .und, .und, .und, .und, .und, .und, .und, .und, .und, .und, .und, .und, .und, .und, .und, .und, .und, .und, .und, .und, .und, .und, .und, .und, .und, .und, .und, .und, .und, .und, .und, .und, .und, .und, .und, .und, .und, .und, .und, .und, .und, .und, .und, .und, .und, .und, .und, .und, .und, .und, .und, .und, .und, .und, .und, .und, .und, .und, .und, .und, .und, .und, .und, .und, .und, .und, .und, .und, .und, .und, .und, .und, .und, .und, .und, .und, .und, .und, .und, .und, .und, .und, .und, .und, .und, .und, .und, .und, .und, .und, .und, .und, .und, .und, .box [.int .i64 b124_0, .int .i64 b124_1, .int .i64 b124_2, .int .i64 b124_3, .int .i64 b124_4, .int .i64 b124_5, .int .i64 b124_6, .int .i64 b124_7]] G
def hodmanlaw2_ConfAll.J85 (M : Mach) (C : Call) (class2 : Int) (charge3 : Int) (l9i : Nat) (l9o : Nat) (l9n : Nat) (i10 : Int) (G : GH) : Option Res := M.j (execC M.j C (M.ag C) hodmanlaw2_ConfAll.c85 (hodmanlaw2_ConfAll.e89 M C) (hodmanlaw2_ConfAll.k88 M C)) [.und, .und, .v (.c (.int .i64 class2)), .v (.c (.int .i64 charge3)), .und, .und, .und, .und, .und, .v (.c (.sl 6 l9i l9o l9n)), .v (.c (.int .i64 i10)), .und, .und, .und, .und, .und, .und, .und, .und, .und, .und, .und, .und, .und, .und, .und, .und, .und, .und, .und, .und, .und, .und, .und, .und, .und, .und, .und, .und, .und, .und, .und, .und, .und, .und, .und, .und, .und, .und, .und, .und, .und, .und, .und, .und, .und, .und, .und, .und, .und, .und, .und, .und, .und, .und, .und, .und, .und, .und, .und, .und, .und, .und, .und, .und, .und, .und, .und, .und, .und, .und, .und, .und, .und, .und, .und, .und, .und, .und, .und, .und, .und, .und, .und, .und, .und, .und, .und, .und, .und, .und, .und, .und, .und, .und, .und, .und, .und, .und, .und, .und, .und, .und, .und, .und, .und, .und, .und, .und, .und, .und, .und, .und, .und, .und] G
def hodmanlaw2_ConfAll.k65 (M : Mach) (C : Call) : Kont := fun tm G => M.ag C [2, 3, 9, 10, 13, 15, 124] hodmanlaw2_ConfAll.c64 (hodmanlaw2_ConfAll.e66 M C) (hodmanlaw2_ConfAll.k78 M C) (restr [2, 3, 9, 10, 13, 15, 124] 0 tm) G
def hodmanlaw2_ConfAll.k62 (M : Mach) (C : Call) : Kont := execC M.j C (M.ag C) hodmanlaw2_ConfAll.c62 (hodmanlaw2_ConfAll.e66 M C) (hodmanlaw2_ConfAll.k65 M C)
def hodmanlaw2_ConfAll.e61 (M : Mach) (C : Call) : Env := { exits := (3, (hodmanlaw2_ConfAll.k62 M C)) :: ((hodmanlaw2_ConfAll.e66 M C)).exits, ret := ((hodmanlaw2_ConfAll.e66 M C)).ret }
def hodmanlaw2_ConfAll.J58 (M : Mach) (C : Call) (class2 : Int) (charge3 : Int) (l9i : Nat) (l9o : Nat) (l9n : Nat) (i10 : Int) (k15 : Int) (n16 : Int) (b124_0 : Int) (b124_1 : Int) (b124_2 : Int) (b124_3 : Int) (b124_4 : Int) (b124_5 : Int) (b124_6 : Int) (b124_7 : Int) (G : GH) : Option Res := M.j (execC M.j C (M.ag C) hodmanlaw2_ConfAll.c58 (hodmanlaw2_ConfAll.e61 M C) (hodmanlaw2_ConfAll.k62 M C)) [.und, .und, .v (.c (.int .i64 class2)), .v (.c (.int .i64 charge3)), .und, .und, .und, .und, .und, .v (.c (.sl 6 l9i l9o l9n)), .v (.c (.int .i64 i10)), .und, .und, .ref 124 0, .und, .v (.c (.int .i64 k15)), .v (.c (.int .i64 n16)), .und, .und, .und, .und, .und, .und, .und, .und, .und, .und, .und, .und, .und, .und, .und, .und, .und, .und, .und, .und, .und, .und, .und, .und, .und, .und, .und, .und, .und, .und, .und, .und, .und, .und, .und, .und, .und, .und, .und, .und, .und, .und, .und, .und, .und, .und, .und, .und, .und, .und, .und, .und, .und, .und, .und, .und, .und, .und, .und, .und, .und, .und, .und, .und, .und, .und, .und, .und, .und, .und, .und, .und, .und, .und, .und, .und, .und, .und, .und, .und, .und, .und, .und, .und, .und, .und, .und, .und, .und, .und, .und, .und, .und, .und, .und, .und, .und, .und, .und, .und, .und, .und, .und, .und, .und, .und, .und, .box [.int .i64 b124_0, .int .i64 b124_1, .int .i64 b124_2, .int .i64 b124_3, .int .i64 b124_4, .int .i64 b124_5, .int .i64 b124_6, .int .i64 b124_7]] G
def hodmanlaw2_ConfAll.J75 (M : Mach) (C : Call) (class2 : Int) (charge3 : Int) (l9i : Nat) (l9o : Nat) (l9n : Nat) (i10 : Int) (t121 : Bool) (G : GH) : Option Res := M.j (execC M.j C (M.ag C) hodmanlaw2_ConfAll.c75 (hodmanlaw2_ConfAll.e84 M C) (hodmanlaw2_ConfAll.k85 M C)) [.und, .und, .v (.c (.int .i64 class2)), .v (.c (.int .i64 charge3)), .und, .und, .und, .und, .und, .v (.c (.sl 6 l9i l9o l9n)), .v (.c (.int .i64 i10)), .und, .und, .und, .und, .und, .und, .und, .und, .und, .und, .und, .und, .und, .und, .und, .und, .und, .und, .und, .und, .und, .und, .und, .und, .und, .und, .und, .und, .und, .und, .und, .und, .und, .und, .und, .und, .und, .und, .und, .und, .und, .und, .und, .und, .und, .und, .und, .und, .und, .und, .und, .und, .und, .und, .und, .und, .und, .und, .und, .und, .und, .und, .und, .und, .und, .und, .und, .und, .und, .und, .und, .und, .und, .und, .und, .und, .und, .und, .und, .und, .und, .und, .und, .und, .und, .und, .und, .und, .und, .und, .und, .und, .und, .und, .und, .und, .und, .und, .und, .und, .und, .und, .und, .und, .und, .und, .und, .und, .und, .und, .v (.c (.bool t121)), .und, .und, .und] G
def hodmanlaw2_ConfAll.J55 (M : Mach) (C : Call) (class2 : Int) (charge3 : Int) (l9i : Nat) (l9o : Nat) (l9n : Nat) (i10 : Int) (k15 : Int) (t101 : Bool) (b124_0 : Int) (b124_1 : Int) (b124_2 : Int) (b124_3 : Int) (b124_4 : Int) (b124_5 : Int) (b124_6 : Int) (b124_7 : Int) (G : GH) : Option Res := M.j (execC M.j C (M.ag C) hodmanlaw2_ConfAll.c55 (hodmanlaw2_ConfAll.e61 M C) (hodmanlaw2_ConfAll.k62 M C)) [.und, .und, .v (.c (.int .i64 class2)), .v (.c (.int .i64 charge3)), .und, .und, .und, .und, .und, .v (.c (.sl 6 l9i l9o l9n)), .v (.c (.int .i64 i10)), .und, .und, .ref 124 0, .und, .v (.c (.int .i64 k15)), .und, .und, .und, .und, .und, .und, .und, .und, .und, .und, .und, .und, .und, .und, .und, .und, .und, .und, .und, .und, .und, .und, .und, .und, .und, .und, .und, .und, .und, .und, .und, .und, .und, .und, .und, .und, .und, .und, .und, .und, .und, .und, .und, .und, .und, .und, .und, .und, .und, .und, .und, .und, .und, .und, .und, .und, .und, .und, .und, .und, .und, .und, .und, .und, .und, .und, .und, .und, .und, .und, .und, .und, .und, .und, .und, .und, .und, .und, .und, .und, .und, .und, .und, .und, .und, .v (.c (.bool t101)), .und, .und, .und, .und, .und, .und, .und, .und, .und, .und, .und, .und, .und, .und, .und, .und, .und, .und, .und, .und, .und, .und, .box [.int .i64 b124_0, .int .i64 b124_1, .int .i64 b124_2, .int .i64 b124_3, .int .i64 b124_4, .int .i64 b124_5, .int .i64 b124_6, .int .i64 b124_7]] G
theorem hodmanlaw2_ConfAll.L88_eq (M : Mach) (C : Call) (class2 : Int) (charge3 : Int) (l9i : Nat) (l9o : Nat) (l9n : Nat) (i10 : Int) (G : GH) : hodmanlaw2_ConfAll.L88 M C class2 charge3 l9i l9o l9n i10 G = (bif decide (i10 < 2) then guardK (decide (0 ≤ i10 ∧ i10 < ((l9n : Nat) : Int))) (((G.ld l9i ((l9o + Int.toNat i10 * 6) + 0)).bind (Cell.asI .i64)).bind fun qx_14 => ((G.ld l9i ((l9o + Int.toNat i10 * 6) + 1)).bind (Cell.asI .i64)).bind fun qx_15 => ((G.ld l9i ((l9o + Int.toNat i10 * 6) + 2)).bind (Cell.asI .i64)).bind fun qx_16 => ((G.ld l9i ((l9o + Int.toNat i10 * 6) + 3)).bind (Cell.asI .i64)).bind fun qx_17 => ((G.ld l9i ((l9o + Int.toNat i10 * 6) + 4)).bind (Cell.asI .i64)).bind fun qx_18 => ((G.ld l9i ((l9o + Int.toNat i10 * 6) + 5)).bind (Cell.asI .i64)).bind fun qx_19 => (C conf_Of.id [.agg [.int .i64 qx_14, .int .i64 qx_15, .int .i64 qx_16, .int .i64 qx_17, .int .i64 qx_18, .int .i64 qx_19]] G).bind fun qr_20 => ((qr_20.1[0]?).bind V1.a?).bind fun qcs_21 => if qcs_21.length = 8 then (((qcs_21[0]?).bind (Cell.asI .i64)).bind fun qx_22 => ((qcs_21[1]?).bind (Cell.asI .i64)).bind fun qx_23 => ((qcs_21[2]?).bind (Cell.asI .i64)).bind fun qx_24 => ((qcs_21[3]?).bind (Cell.asI .i64)).bind fun qx_25 => ((qcs_21[4]?).bind (Cell.asI .i64)).bind fun qx_26 => ((qcs_21[5]?).bind (Cell.asI .i64)).bind fun qx_27 => ((qcs_21[6]?).bind (Cell.asI .i64)).bind fun qx_28 => ((qcs_21[7]?).bind (Cell.asI .i64)).bind fun qx_29 => (((qr_20.1[1]?).bind V1.c?).bind (Cell.asI .i64)).bind fun qx_30 => guardK (decide (0 ≤ i10 ∧ i10 < ((l9n : Nat) : Int))) (((qr_20.2.ld l9i ((l9o + Int.toNat i10 * 6) + 0)).bind (Cell.asI .i64)).bind fun qx_31 => ((qr_20.2.ld l9i ((l9o + Int.toNat i10 * 6) + 1)).bind (Cell.asI .i64)).bind fun qx_32 => ((qr_20.2.ld l9i ((l9o + Int.toNat i10 * 6) + 2)).bind (Cell.asI .i64)).bind fun qx_33 => ((qr_20.2.ld l9i ((l9o + Int.toNat i10 * 6) + 3)).bind (Cell.asI .i64)).bind fun qx_34 => ((qr_20.2.ld l9i ((l9o + Int.toNat i10 * 6) + 4)).bind (Cell.asI .i64)).bind fun qx_35 => ((qr_20.2.ld l9i ((l9o + Int.toNat i10 * 6) + 5)).bind (Cell.asI .i64)).bind fun qx_36 => (C hodmanref1_Of.id [.agg [.int .i64 qx_31, .int .i64 qx_32, .int .i64 qx_33, .int .i64 qx_34, .int .i64 qx_35, .int .i64 qx_36]] qr_20.2).bind fun qr_37 => ((qr_37.1[0]?).bind V1.a?).bind fun qcs_38 => if qcs_38.length = 8 then (((qcs_38[0]?).bind (Cell.asI .i64)).bind fun qx_39 => ((qcs_38[1]?).bind (Cell.asI .i64)).bind fun qx_40 => ((qcs_38[2]?).bind (Cell.asI .i64)).bind fun qx_41 => ((qcs_38[3]?).bind (Cell.asI .i64)).bind fun qx_42 => ((qcs_38[4]?).bind (Cell.asI .i64)).bind fun qx_43 => ((qcs_38[5]?).bind (Cell.asI .i64)).bind fun qx_44 => ((qcs_38[6]?).bind (Cell.asI .i64)).bind fun qx_45 => ((qcs_38[7]?).bind (Cell.asI .i64)).bind fun qx_46 => (((qr_37.1[1]?).bind V1.c?).bind (Cell.asI .i64)).bind fun qx_47 => bif Bool.xor true (decide (qx_22 = qx_39) && (decide (qx_23 = qx_40) && (decide (qx_24 = qx_41) && (decide (qx_25 = qx_42) && (decide (qx_26 = qx_43) && (decide (qx_27 = qx_44) && (decide (qx_28 = qx_45) && (decide (qx_29 = qx_46) && true)))))))) then hodmanlaw2_ConfAll.J29 M C class2 charge3 l9i l9o l9n i10 qx_47 true qx_39 qx_40 qx_41 qx_42 qx_43 qx_44 qx_45 qx_46 qr_37.2 else hodmanlaw2_ConfAll.J29 M C class2 charge3 l9i l9o l9n i10 qx_47 (!decide (qx_30 = qx_47)) qx_39 qx_40 qx_41 qx_42 qx_43 qx_44 qx_45 qx_46 qr_37.2) else none)) else none) else some ([.c (.bool true)], G)) := (M.hs _ _ _ _ _ _ _).trans (by kernel_rfl)
theorem hodmanlaw2_ConfAll.J29_eq (M : Mach) (C : Call) (class2 : Int) (charge3 : Int) (l9i : Nat) (l9o : Nat) (l9n : Nat) (i10 : Int) (f14 : Int) (t62 : Bool) (b124_0 : Int) (b124_1 : Int) (b124_2 : Int) (b124_3 : Int) (b124_4 : Int) (b124_5 : Int) (b124_6 : Int) (b124_7 : Int) (G : GH) : hodmanlaw2_ConfAll.J29 M C class2 charge3 l9i l9o l9n i10 f14 t62 b124_0 b124_1 b124_2 b124_3 b124_4 b124_5 b124_6 b124_7 G = (bif t62 then some ([.c (.bool false)], G) else bif (!decide (f14 = 0)) then hodmanlaw2_ConfAll.J85 M C class2 charge3 l9i l9o l9n i10 G else hodmanlaw2_ConfAll.L65 M C class2 charge3 l9i l9o l9n i10 (-1) b124_0 b124_1 b124_2 b124_3 b124_4 b124_5 b124_6 b124_7 G) := (M.hj _ _ _).trans (by kernel_rfl)
theorem hodmanlaw2_ConfAll.L65_eq (M : Mach) (C : Call) (class2 : Int) (charge3 : Int) (l9i : Nat) (l9o : Nat) (l9n : Nat) (i10 : Int) (k15 : Int) (b124_0 : Int) (b124_1 : Int) (b124_2 : Int) (b124_3 : Int) (b124_4 : Int) (b124_5 : Int) (b124_6 : Int) (b124_7 : Int) (G : GH) : hodmanlaw2_ConfAll.L65 M C class2 charge3 l9i l9o l9n i10 k15 b124_0 b124_1 b124_2 b124_3 b124_4 b124_5 b124_6 b124_7 G = (bif decide (k15 < 20) then bif decide (k15 < 0) then hodmanlaw2_ConfAll.J58 M C class2 charge3 l9i l9o l9n i10 k15 class2 b124_0 b124_1 b124_2 b124_3 b124_4 b124_5 b124_6 b124_7 G else hodmanlaw2_ConfAll.J58 M C class2 charge3 l9i l9o l9n i10 k15 k15 b124_0 b124_1 b124_2 b124_3 b124_4 b124_5 b124_6 b124_7 G else (C conf_Shift.id [.agg [.int .i64 b124_0, .int .i64 b124_1, .int .i64 b124_2, .int .i64 b124_3, .int .i64 b124_4, .int .i64 b124_5, .int .i64 b124_6, .int .i64 b124_7], .c (.int .i64 charge3)] G).bind fun qr_48 => (((qr_48.1[0]?).bind V1.c?).bind (Cell.asI .i64)).bind fun qx_49 => (((qr_48.1[1]?).bind V1.c?).bind Cell.asB).bind fun qb_50 => (C hodmanref1_Shift.id [.agg [.int .i64 b124_0, .int .i64 b124_1, .int .i64 b124_2, .int .i64 b124_3, .int .i64 b124_4, .int .i64 b124_5, .int .i64 b124_6, .int .i64 b124_7], .c (.int .i64 charge3)] qr_48.2).bind fun qr_51 => (((qr_51.1[0]?).bind V1.c?).bind (Cell.asI .i64)).bind fun qx_52 => (((qr_51.1[1]?).bind V1.c?).bind Cell.asB).bind fun qb_53 => bif (!decide (qx_49 = qx_52)) then hodmanlaw2_ConfAll.J75 M C class2 charge3 l9i l9o l9n i10 true qr_51.2 else hodmanlaw2_ConfAll.J75 M C class2 charge3 l9i l9o l9n i10 (Bool.xor true (qb_50 == qb_53)) qr_51.2) := (M.hs _ _ _ _ _ _ _).trans (by kernel_rfl)
theorem hodmanlaw2_ConfAll.J85_eq (M : Mach) (C : Call) (class2 : Int) (charge3 : Int) (l9i : Nat) (l9o : Nat) (l9n : Nat) (i10 : Int) (G : GH) : hodmanlaw2_ConfAll.J85 M C class2 charge3 l9i l9o l9n i10 G = (hodmanlaw2_ConfAll.L88 M C class2 charge3 l9i l9o l9n (IntKind.i64.wrap (i10 + 1)) G) := (M.hj _ _ _).trans (by kernel_rfl)
theorem hodmanlaw2_ConfAll.J58_eq (M : Mach) (C : Call) (class2 : Int) (charge3 : Int) (l9i : Nat) (l9o : Nat) (l9n : Nat) (i10 : Int) (k15 : Int) (n16 : Int) (b124_0 : Int) (b124_1 : Int) (b124_2 : Int) (b124_3 : Int) (b124_4 : Int) (b124_5 : Int) (b124_6 : Int) (b124_7 : Int) (G : GH) : hodmanlaw2_ConfAll.J58 M C class2 charge3 l9i l9o l9n i10 k15 n16 b124_0 b124_1 b124_2 b124_3 b124_4 b124_5 b124_6 b124_7 G = ((C conf_Shift.id [.agg [.int .i64 b124_0, .int .i64 b124_1, .int .i64 b124_2, .int .i64 b124_3, .int .i64 b124_4, .int .i64 b124_5, .int .i64 b124_6, .int .i64 b124_7], .c (.int .i64 n16)] G).bind fun qr_54 => (((qr_54.1[0]?).bind V1.c?).bind (Cell.asI .i64)).bind fun qx_55 => (((qr_54.1[1]?).bind V1.c?).bind Cell.asB).bind fun qb_56 => (C hodmanref1_Shift.id [.agg [.int .i64 b124_0, .int .i64 b124_1, .int .i64 b124_2, .int .i64 b124_3, .int .i64 b124_4, .int .i64 b124_5, .int .i64 b124_6, .int .i64 b124_7], .c (.int .i64 n16)] qr_54.2).bind fun qr_57 => (((qr_57.1[0]?).bind V1.c?).bind (Cell.asI .i64)).bind fun qx_58 => (((qr_57.1[1]?).bind V1.c?).bind Cell.asB).bind fun qb_59 => (C conf_Ceil.id [.agg [.int .i64 b124_0, .int .i64 b124_1, .int .i64 b124_2, .int .i64 b124_3, .int .i64 b124_4, .int .i64 b124_5, .int .i64 b124_6, .int .i64 b124_7], .c (.int .i64 n16)] qr_57.2).bind fun qr_60 => (((qr_60.1[0]?).bind V1.c?).bind (Cell.asI .i64)).bind fun qx_61 => (C hodmanref1_Ceil.id [.agg [.int .i64 b124_0, .int .i64 b124_1, .int .i64 b124_2, .int .i64 b124_3, .int .i64 b124_4, .int .i64 b124_5, .int .i64 b124_6, .int .i64 b124_7], .c (.int .i64 n16)] qr_60.2).bind fun qr_62 => (((qr_62.1[0]?).bind V1.c?).bind (Cell.asI .i64)).bind fun qx_63 => bif (!decide (qx_61 = qx_63)) then hodmanlaw2_ConfAll.J55 M C class2 charge3 l9i l9o l9n i10 k15 true b124_0 b124_1 b124_2 b124_3 b124_4 b124_5 b124_6 b124_7 qr_62.2 else bif (!decide (qx_55 = qx_58)) then hodmanlaw2_ConfAll.J55 M C class2 charge3 l9i l9o l9n i10 k15 true b124_0 b124_1 b124_2 b124_3 b124_4 b124_5 b124_6 b124_7 qr_62.2 else hodmanlaw2_ConfAll.J55 M C class2 charge3 l9i l9o l9n i10 k15 (Bool.xor true (qb_56 == qb_59)) b124_0 b124_1 b124_2 b124_3 b124_4 b124_5 b124_6 b124_7 qr_62.2) := (M.hj _ _ _).trans (by kernel_rfl)
theorem hodmanlaw2_ConfAll.J75_eq (M : Mach) (C : Call) (class2 : Int) (charge3 : Int) (l9i : Nat) (l9o : Nat) (l9n : Nat) (i10 : Int) (t121 : Bool) (G : GH) : hodmanlaw2_ConfAll.J75 M C class2 charge3 l9i l9o l9n i10 t121 G = (bif t121 then some ([.c (.bool false)], G) else hodmanlaw2_ConfAll.J85 M C class2 charge3 l9i l9o l9n i10 G) := (M.hj _ _ _).trans (by kernel_rfl)
theorem hodmanlaw2_ConfAll.J55_eq (M : Mach) (C : Call) (class2 : Int) (charge3 : Int) (l9i : Nat) (l9o : Nat) (l9n : Nat) (i10 : Int) (k15 : Int) (t101 : Bool) (b124_0 : Int) (b124_1 : Int) (b124_2 : Int) (b124_3 : Int) (b124_4 : Int) (b124_5 : Int) (b124_6 : Int) (b124_7 : Int) (G : GH) : hodmanlaw2_ConfAll.J55 M C class2 charge3 l9i l9o l9n i10 k15 t101 b124_0 b124_1 b124_2 b124_3 b124_4 b124_5 b124_6 b124_7 G = (bif t101 then some ([.c (.bool false)], G) else hodmanlaw2_ConfAll.L65 M C class2 charge3 l9i l9o l9n i10 (IntKind.i64.wrap (k15 + 1)) b124_0 b124_1 b124_2 b124_3 b124_4 b124_5 b124_6 b124_7 G) := (M.hj _ _ _).trans (by kernel_rfl)
def hodmanlaw2_ConfAll.f (M : Mach) (C : Call) (wild0_0 : Int) (wild0_1 : Int) (wild0_2 : Int) (wild0_3 : Int) (wild0_4 : Int) (wild0_5 : Int) (picks1i : Nat) (picks1o : Nat) (picks1n : Nat) (class2 : Int) (charge3 : Int) (G : GH) : Option Res := (C hodmanlaw2_begun.id [] G).bind fun qr_1 => (((qr_1.1[0]?).bind V1.c?).bind Cell.asB).bind fun qb_2 => bif (!qb_2) then some ([.c (.bool false)], qr_1.2) else bif decide (((picks1n : Nat) : Int) > 6) then some ([.c (.bool true)], qr_1.2) else (C hodmanplay_Made.id [.c (.sl 1 picks1i picks1o picks1n)] qr_1.2).bind fun qr_3 => (((qr_3.1[0]?).bind V1.c?).bind Cell.asP).bind fun qp_4 => (C hodmanplay_Picks_Raw.id [.c (.ptr qp_4.1 qp_4.2), .c (.bool false)] qr_3.2).bind fun qr_5 => ((qr_5.1[0]?).bind V1.a?).bind fun qcs_6 => if qcs_6.length = 6 then (((qcs_6[0]?).bind (Cell.asI .i64)).bind fun qx_7 => ((qcs_6[1]?).bind (Cell.asI .i64)).bind fun qx_8 => ((qcs_6[2]?).bind (Cell.asI .i64)).bind fun qx_9 => ((qcs_6[3]?).bind (Cell.asI .i64)).bind fun qx_10 => ((qcs_6[4]?).bind (Cell.asI .i64)).bind fun qx_11 => ((qcs_6[5]?).bind (Cell.asI .i64)).bind fun qx_12 => let qG_13 := qr_5.2.alloc (.row [.int .i64 wild0_0, .int .i64 wild0_1, .int .i64 wild0_2, .int .i64 wild0_3, .int .i64 wild0_4, .int .i64 wild0_5, .int .i64 qx_7, .int .i64 qx_8, .int .i64 qx_9, .int .i64 qx_10, .int .i64 qx_11, .int .i64 qx_12] false); hodmanlaw2_ConfAll.L88 M C class2 charge3 qr_5.2.next 0 2 0 qG_13) else none
theorem hodmanlaw2_ConfAll.eq (M : Mach) (C : Call) (wild0_0 : Int) (wild0_1 : Int) (wild0_2 : Int) (wild0_3 : Int) (wild0_4 : Int) (wild0_5 : Int) (picks1i : Nat) (picks1o : Nat) (picks1n : Nat) (class2 : Int) (charge3 : Int) (G : GH) : runF M C hodmanlaw2_ConfAll.d [.agg [.int .i64 wild0_0, .int .i64 wild0_1, .int .i64 wild0_2, .int .i64 wild0_3, .int .i64 wild0_4, .int .i64 wild0_5], .c (.sl 1 picks1i picks1o picks1n), .c (.int .i64 class2), .c (.int .i64 charge3)] G = hodmanlaw2_ConfAll.f M C wild0_0 wild0_1 wild0_2 wild0_3 wild0_4 wild0_5 picks1i picks1o picks1n class2 charge3 G := by kernel_rfl

/- 23 hodman/hodmanref1.Of -/
def hodmanref1_Of.c13 : DCode := (.cond (.t 31) (.seq (.region [⟨0, some 32, .build [.int .i64 0, .int .i64 0, .int .i64 0, .int .i64 0, .int .i64 0, .int .i64 0, .int .i64 0, .int .i64 0] [], none⟩,
    ⟨1, none, .stL 2 123 (.t 32) 8, none⟩,
    ⟨2, some 3, .move (.k (.c (.int .i64 1))), none⟩]) .ret) .skip)
def hodmanref1_Of.c16 : DCode := (.region [⟨0, some 18, .move (.t 5), none⟩,
    ⟨1, some 19, .bin .add .i64 (.t 18) (.k (.c (.int .i64 1))), none⟩,
    ⟨2, some 5, .move (.t 19), none⟩])
def hodmanref1_Of.c18 : DCode := (.seq (.seq (.region [⟨0, some 16, .move (.t 5), none⟩,
    ⟨1, some 17, .cmp .lss .i64 (.t 16) (.k (.c (.int .i64 4))), none⟩]) (.cond (.t 17) .skip (.exit 0))) (.seq (.block 1 (.seq (.region [⟨0, some 20, .move (.t 4), none⟩,
    ⟨1, some 21, .move (.t 5), none⟩,
    ⟨2, some 22, .iaddr (.t 20) (.t 21) 1, none⟩,
    ⟨3, some 23, .ldG 22 (.c (.int .i64)), none⟩,
    ⟨4, some 24, .cmp .lss .i64 (.t 23) (.k (.c (.int .i64 1))), none⟩,
    ⟨5, some 25, .move (.t 24), none⟩,
    ⟨6, some 26, .move (.t 4), some (25, false)⟩,
    ⟨7, some 27, .move (.t 5), some (25, false)⟩,
    ⟨8, some 28, .iaddr (.t 26) (.t 27) 1, some (25, false)⟩,
    ⟨9, some 29, .ldG 28 (.c (.int .i64)), some (25, false)⟩,
    ⟨10, some 30, .cmp .gtr .i64 (.t 29) (.k (.c (.int .i64 65536))), some (25, false)⟩,
    ⟨11, some 31, .pick (.t 25) (.k (.c (.bool true))) (.t 30), none⟩]) (.cut [1, 2, 4, 5, 31, 122, 123] hodmanref1_Of.c13))) hodmanref1_Of.c16))
def hodmanref1_Of.c19 : DCode := (.loop [1, 2, 4, 5, 122, 123] hodmanref1_Of.c18)
def hodmanref1_Of.c27 : DCode := (.cond (.t 50) (.seq (.region [⟨0, some 51, .build [.int .i64 0, .int .i64 0, .int .i64 0, .int .i64 0, .int .i64 0, .int .i64 0, .int .i64 0, .int .i64 0] [], none⟩,
    ⟨1, none, .stL 2 123 (.t 51) 8, none⟩,
    ⟨2, some 3, .move (.k (.c (.int .i64 1))), none⟩]) .ret) .skip)
def hodmanref1_Of.c53 : DCode := (.seq (.region [⟨0, some 52, .faddr 1 4, none⟩,
    ⟨1, some 53, .ldL 52 122 (.c (.int .i64)), none⟩,
    ⟨2, some 54, .faddr 1 5, none⟩,
    ⟨3, some 55, .ldL 54 122 (.c (.int .i64)), none⟩,
    ⟨4, some 56, .build [.int .i64 0, .int .i64 0, .int .i64 0, .int .i64 0, .int .i64 0, .int .i64 0, .int .i64 0, .int .i64 0] [(5, 1, .t 53), (7, 1, .t 55)], none⟩,
    ⟨5, some 6, .boxz 124 [63, 67, 73, 77, 83, 87, 89, 96, 98, 100, 106, 107, 109, 111, 116, 117] [.int .i64 0, .int .i64 0, .int .i64 0, .int .i64 0, .int .i64 0, .int .i64 0, .int .i64 0, .int .i64 0], none⟩,
    ⟨6, none, .stL 6 124 (.t 56) 8, none⟩]) (.seq (.region [⟨0, some 58, .faddr 1 0, none⟩,
    ⟨1, some 59, .ldL 58 122 (.c (.int .i64)), none⟩,
    ⟨2, some 60, .call 40 [.t 59] [.c (.int .i64), .c (.bool)], none⟩,
    ⟨3, some 57, .move (.t 60), none⟩,
    ⟨4, some 61, .ext 57 0, none⟩,
    ⟨5, some 62, .ext 57 1, none⟩,
    ⟨6, some 63, .faddr 6 0, none⟩,
    ⟨7, none, .stL 63 124 (.t 61) 1, none⟩]) (.seq (.region [⟨0, some 65, .faddr 1 1, none⟩,
    ⟨1, some 66, .ldL 65 122 (.c (.int .i64)), none⟩,
    ⟨2, some 67, .faddr 6 0, none⟩,
    ⟨3, some 68, .ldL 67 124 (.c (.int .i64)), none⟩,
    ⟨4, some 69, .mx (.t 66) [.t 68], none⟩,
    ⟨5, some 70, .call 40 [.t 69] [.c (.int .i64), .c (.bool)], none⟩,
    ⟨6, some 64, .move (.t 70), none⟩,
    ⟨7, some 71, .ext 64 0, none⟩,
    ⟨8, some 72, .ext 64 1, none⟩,
    ⟨9, some 73, .faddr 6 1, none⟩,
    ⟨10, none, .stL 73 124 (.t 71) 1, none⟩]) (.seq (.region [⟨0, some 75, .faddr 1 3, none⟩,
    ⟨1, some 76, .ldL 75 122 (.c (.int .i64)), none⟩,
    ⟨2, some 77, .faddr 6 0, none⟩,
    ⟨3, some 78, .ldL 77 124 (.c (.int .i64)), none⟩,
    ⟨4, some 79, .mx (.t 76) [.t 78], none⟩,
    ⟨5, some 80, .call 40 [.t 79] [.c (.int .i64), .c (.bool)], none⟩,
    ⟨6, some 74, .move (.t 80), none⟩,
    ⟨7, some 81, .ext 74 0, none⟩,
    ⟨8, some 82, .ext 74 1, none⟩,
    ⟨9, some 83, .faddr 6 4, none⟩,
    ⟨10, none, .stL 83 124 (.t 81) 1, none⟩]) (.seq (.region [⟨0, some 85, .faddr 1 2, none⟩,
    ⟨1, some 86, .ldL 85 122 (.c (.int .i64)), none⟩,
    ⟨2, some 87, .faddr 6 1, none⟩,
    ⟨3, some 88, .ldL 87 124 (.c (.int .i64)), none⟩,
    ⟨4, some 89, .faddr 6 4, none⟩,
    ⟨5, some 90, .ldL 89 124 (.c (.int .i64)), none⟩,
    ⟨6, some 91, .mx (.t 88) [.t 90], none⟩,
    ⟨7, some 92, .bin .mul .i64 (.k (.c (.int .i64 2))) (.t 91), none⟩,
    ⟨8, some 93, .call 44 [.t 86, .t 92] [.c (.int .i64), .c (.bool)], none⟩,
    ⟨9, some 84, .move (.t 93), none⟩,
    ⟨10, some 94, .ext 84 0, none⟩,
    ⟨11, some 95, .ext 84 1, none⟩,
    ⟨12, some 96, .faddr 6 2, none⟩,
    ⟨13, none, .stL 96 124 (.t 94) 1, none⟩]) (.seq (.region [⟨0, some 98, .faddr 6 1, none⟩,
    ⟨1, some 99, .ldL 98 124 (.c (.int .i64)), none⟩,
    ⟨2, some 100, .faddr 6 0, none⟩,
    ⟨3, some 101, .ldL 100 124 (.c (.int .i64)), none⟩,
    ⟨4, some 102, .bin .quo .i64 (.t 99) (.t 101), none⟩,
    ⟨5, some 103, .call 39 [.t 102] [.c (.int .i64), .c (.bool)], none⟩,
    ⟨6, some 97, .move (.t 103), none⟩,
    ⟨7, some 104, .ext 97 0, none⟩,
    ⟨8, some 105, .ext 97 1, none⟩,
    ⟨9, some 106, .faddr 6 3, none⟩,
    ⟨10, none, .stL 106 124 (.t 104) 1, none⟩]) (.seq (.region [⟨0, some 107, .faddr 6 2, none⟩,
    ⟨1, some 108, .ldL 107 124 (.c (.int .i64)), none⟩,
    ⟨2, some 109, .faddr 6 3, none⟩,
    ⟨3, some 110, .ldL 109 124 (.c (.int .i64)), none⟩,
    ⟨4, some 111, .faddr 6 2, none⟩,
    ⟨5, some 112, .ldL 111 124 (.c (.int .i64)), none⟩,
    ⟨6, some 113, .bin .quo .i64 (.t 112) (.k (.c (.int .i64 2))), none⟩,
    ⟨7, some 114, .bin .mul .i64 (.t 110) (.t 113), none⟩,
    ⟨8, some 115, .bin .add .i64 (.t 108) (.t 114), none⟩,
    ⟨9, some 116, .faddr 6 6, none⟩,
    ⟨10, none, .stL 116 124 (.t 115) 1, none⟩]) (.seq (.seq (.region [⟨0, some 117, .faddr 6 6, none⟩,
    ⟨1, some 118, .ldL 117 124 (.c (.int .i64)), none⟩,
    ⟨2, some 119, .cmp .gtr .i64 (.t 118) (.k (.c (.int .i64 65536))), none⟩]) (.cond (.t 119) (.seq (.region [⟨0, some 120, .build [.int .i64 0, .int .i64 0, .int .i64 0, .int .i64 0, .int .i64 0, .int .i64 0, .int .i64 0, .int .i64 0] [], none⟩,
    ⟨1, none, .stL 2 123 (.t 120) 8, none⟩,
    ⟨2, some 3, .move (.k (.c (.int .i64 1))), none⟩]) .ret) .skip)) (.seq (.region [⟨0, some 121, .ldL 6 124 (.agg [.int .i64, .int .i64, .int .i64, .int .i64, .int .i64, .int .i64, .int .i64, .int .i64]), none⟩,
    ⟨1, none, .stL 2 123 (.t 121) 8, none⟩,
    ⟨2, some 3, .move (.k (.c (.int .i64 0))), none⟩]) .ret)))))))))
def hodmanref1_Of.c54 : DCode := (.seq (.seq (.region [⟨0, some 33, .faddr 1 4, none⟩,
    ⟨1, some 34, .ldL 33 122 (.c (.int .i64)), none⟩,
    ⟨2, some 35, .cmp .lss .i64 (.t 34) (.k (.c (.int .i64 0))), none⟩,
    ⟨3, some 36, .move (.t 35), none⟩,
    ⟨4, some 37, .faddr 1 4, some (36, false)⟩,
    ⟨5, some 38, .ldL 37 122 (.c (.int .i64)), some (36, false)⟩,
    ⟨6, some 39, .cmp .gtr .i64 (.t 38) (.k (.c (.int .i64 65536))), some (36, false)⟩,
    ⟨7, some 40, .pick (.t 36) (.k (.c (.bool true))) (.t 39), none⟩,
    ⟨8, some 41, .move (.t 40), none⟩,
    ⟨9, some 42, .faddr 1 5, some (41, false)⟩,
    ⟨10, some 43, .ldL 42 122 (.c (.int .i64)), some (41, false)⟩,
    ⟨11, some 44, .cmp .lss .i64 (.t 43) (.k (.c (.int .i64 0))), some (41, false)⟩,
    ⟨12, some 45, .pick (.t 41) (.k (.c (.bool true))) (.t 44), none⟩,
    ⟨13, some 46, .move (.t 45), none⟩,
    ⟨14, some 47, .faddr 1 5, some (46, false)⟩,
    ⟨15, some 48, .ldL 47 122 (.c (.int .i64)), some (46, false)⟩,
    ⟨16, some 49, .cmp .gtr .i64 (.t 48) (.k (.c (.int .i64 255))), some (46, false)⟩,
    ⟨17, some 50, .pick (.t 46) (.k (.c (.bool true))) (.t 49), none⟩]) (.cut [1, 2, 50, 122, 123] hodmanref1_Of.c27)) hodmanref1_Of.c53)
def hodmanref1_Of.d : DFn := { ntmps := 125, res := [.box 2 (some 8), .t 3], body := (.seq (.region [⟨0, some 1, .boxv 122 [7, 9, 11, 13, 33, 37, 42, 47, 52, 54, 58, 65, 75, 85] (.t 0) 6, none⟩,
    ⟨1, some 2, .boxz 123 [] [.int .i64 0, .int .i64 0, .int .i64 0, .int .i64 0, .int .i64 0, .int .i64 0, .int .i64 0, .int .i64 0], none⟩,
    ⟨2, some 3, .move (.k (.c (.int .i64 0))), none⟩]) (.seq (.region [⟨0, some 7, .faddr 1 0, none⟩,
    ⟨1, some 8, .ldL 7 122 (.c (.int .i64)), none⟩,
    ⟨2, some 9, .faddr 1 1, none⟩,
    ⟨3, some 10, .ldL 9 122 (.c (.int .i64)), none⟩,
    ⟨4, some 11, .faddr 1 2, none⟩,
    ⟨5, some 12, .ldL 11 122 (.c (.int .i64)), none⟩,
    ⟨6, some 13, .faddr 1 3, none⟩,
    ⟨7, some 14, .ldL 13 122 (.c (.int .i64)), none⟩,
    ⟨8, some 15, .bslice 4 1 [.int .i64 0, .int .i64 0, .int .i64 0, .int .i64 0] [(0, 1, .t 8), (1, 1, .t 10), (2, 1, .t 12), (3, 1, .t 14)], none⟩,
    ⟨9, some 4, .move (.t 15), none⟩]) (.seq (.seq (.region [⟨0, some 5, .move (.k (.c (.int .i64 0))), none⟩]) (.block 0 hodmanref1_Of.c19)) hodmanref1_Of.c54))) }
def hodmanref1_Of.k54 (M : Mach) (C : Call) : Kont := execC M.j C (M.ag C) hodmanref1_Of.c54 ({ exits := [], ret := retK hodmanref1_Of.d } : Env) (retK hodmanref1_Of.d)
def hodmanref1_Of.e20 (M : Mach) (C : Call) : Env := { exits := (0, (hodmanref1_Of.k54 M C)) :: (({ exits := [], ret := retK hodmanref1_Of.d } : Env)).exits, ret := (({ exits := [], ret := retK hodmanref1_Of.d } : Env)).ret }
def hodmanref1_Of.L19 (M : Mach) (C : Call) (l4i : Nat) (l4o : Nat) (l4n : Nat) (i5 : Int) (r122_0 : Int) (r122_1 : Int) (r122_2 : Int) (r122_3 : Int) (r122_4 : Int) (r122_5 : Int) (x123_0 : Int) (x123_1 : Int) (x123_2 : Int) (x123_3 : Int) (x123_4 : Int) (x123_5 : Int) (x123_6 : Int) (x123_7 : Int) (G : GH) : Option Res := M.ag C [1, 2, 4, 5, 122, 123] hodmanref1_Of.c18 (hodmanref1_Of.e20 M C) (hodmanref1_Of.k54 M C) [.und, .ref 122 0, .ref 123 0, .und, .v (.c (.sl 1 l4i l4o l4n)), .v (.c (.int .i64 i5)), .und, .und, .und, .und, .und, .und, .und, .und, .und, .und, .und, .und, .und, .und, .und, .und, .und, .und, .und, .und, .und, .und, .und, .und, .und, .und, .und, .und, .und, .und, .und, .und, .und, .und, .und, .und, .und, .und, .und, .und, .und, .und, .und, .und, .und, .und, .und, .und, .und, .und, .und, .und, .und, .und, .und, .und, .und, .und, .und, .und, .und, .und, .und, .und, .und, .und, .und, .und, .und, .und, .und, .und, .und, .und, .und, .und, .und, .und, .und, .und, .und, .und, .und, .und, .und, .und, .und, .und, .und, .und, .und, .und, .und, .und, .und, .und, .und, .und, .und, .und, .und, .und, .und, .und, .und, .und, .und, .und, .und, .und, .und, .und, .und, .und, .und, .und, .box [.int .i64 r122_0, .int .i64 r122_1, .int .i64 r122_2, .int .i64 r122_3, .int .i64 r122_4, .int .i64 r122_5], .box [.int .i64 x123_0, .int .i64 x123_1, .int .i64 x123_2, .int .i64 x123_3, .int .i64 x123_4, .int .i64 x123_5, .int .i64 x123_6, .int .i64 x123_7], .und] G
def hodmanref1_Of.k19 (M : Mach) (C : Call) : Kont := fun tm G => M.ag C [1, 2, 4, 5, 122, 123] hodmanref1_Of.c18 (hodmanref1_Of.e20 M C) (hodmanref1_Of.k54 M C) (restr [1, 2, 4, 5, 122, 123] 0 tm) G
def hodmanref1_Of.k16 (M : Mach) (C : Call) : Kont := execC M.j C (M.ag C) hodmanref1_Of.c16 (hodmanref1_Of.e20 M C) (hodmanref1_Of.k19 M C)
def hodmanref1_Of.e15 (M : Mach) (C : Call) : Env := { exits := (1, (hodmanref1_Of.k16 M C)) :: ((hodmanref1_Of.e20 M C)).exits, ret := ((hodmanref1_Of.e20 M C)).ret }
def hodmanref1_Of.J13 (M : Mach) (C : Call) (l4i : Nat) (l4o : Nat) (l4n : Nat) (i5 : Int) (t31 : Bool) (r122_0 : Int) (r122_1 : Int) (r122_2 : Int) (r122_3 : Int) (r122_4 : Int) (r122_5 : Int) (x123_0 : Int) (x123_1 : Int) (x123_2 : Int) (x123_3 : Int) (x123_4 : Int) (x123_5 : Int) (x123_6 : Int) (x123_7 : Int) (G : GH) : Option Res := M.j (execC M.j C (M.ag C) hodmanref1_Of.c13 (hodmanref1_Of.e15 M C) (hodmanref1_Of.k16 M C)) [.und, .ref 122 0, .ref 123 0, .und, .v (.c (.sl 1 l4i l4o l4n)), .v (.c (.int .i64 i5)), .und, .und, .und, .und, .und, .und, .und, .und, .und, .und, .und, .und, .und, .und, .und, .und, .und, .und, .und, .und, .und, .und, .und, .und, .und, .v (.c (.bool t31)), .und, .und, .und, .und, .und, .und, .und, .und, .und, .und, .und, .und, .und, .und, .und, .und, .und, .und, .und, .und, .und, .und, .und, .und, .und, .und, .und, .und, .und, .und, .und, .und, .und, .und, .und, .und, .und, .und, .und, .und, .und, .und, .und, .und, .und, .und, .und, .und, .und, .und, .und, .und, .und, .und, .und, .und, .und, .und, .und, .und, .und, .und, .und, .und, .und, .und, .und, .und, .und, .und, .und, .und, .und, .und, .und, .und, .und, .und, .und, .und, .und, .und, .und, .und, .und, .und, .und, .und, .und, .und, .box [.int .i64 r122_0, .int .i64 r122_1, .int .i64 r122_2, .int .i64 r122_3, .int .i64 r122_4, .int .i64 r122_5], .box [.int .i64 x123_0, .int .i64 x123_1, .int .i64 x123_2, .int .i64 x123_3, .int .i64 x123_4, .int .i64 x123_5, .int .i64 x123_6, .int .i64 x123_7], .und] G
def hodmanref1_Of.k53 (M : Mach) (C : Call) : Kont := execC M.j C (M.ag C) hodmanref1_Of.c53 ({ exits := [], ret := retK hodmanref1_Of.d } : Env) (retK hodmanref1_Of.d)
def hodmanref1_Of.J27 (M : Mach) (C : Call) (t50 : Bool) (r122_0 : Int) (r122_1 : Int) (r122_2 : Int) (r122_3 : Int) (r122_4 : Int) (r122_5 : Int) (x123_0 : Int) (x123_1 : Int) (x123_2 : Int) (x123_3 : Int) (x123_4 : Int) (x123_5 : Int) (x123_6 : Int) (x123_7 : Int) (G : GH) : Option Res := M.j (execC M.j C (M.ag C) hodmanref1_Of.c27 ({ exits := [], ret := retK hodmanref1_Of.d } : Env) (hodmanref1_Of.k53 M C)) [.und, .ref 122 0, .ref 123 0, .und, .und, .und, .und, .und, .und, .und, .und, .und, .und, .und, .und, .und, .und, .und, .und, .und, .und, .und, .und, .und, .und, .und, .und, .und, .und, .und, .und, .und, .und, .und, .und, .und, .und, .und, .und, .und, .und, .und, .und, .und, .und, .und, .und, .und, .und, .und, .v (.c (.bool t50)), .und, .und, .und, .und, .und, .und, .und, .und, .und, .und, .und, .und, .und, .und, .und, .und, .und, .und, .und, .und, .und, .und, .und, .und, .und, .und, .und, .und, .und, .und, .und, .und, .und, .und, .und, .und, .und, .und, .und, .und, .und, .und, .und, .und, .und, .und, .und, .und, .und, .und, .und, .und, .und, .und, .und, .und, .und, .und, .und, .und, .und, .und, .und, .und, .und, .und, .und, .und, .und, .und, .und, .box [.int .i64 r122_0, .int .i64 r122_1, .int .i64 r122_2, .int .i64 r122_3, .int .i64 r122_4, .int .i64 r122_5], .box [.int .i64 x123_0, .int .i64 x123_1, .int .i64 x123_2, .int .i64 x123_3, .int .i64 x123_4, .int .i64 x123_5, .int .i64 x123_6, .int .i64 x123_7], .und] G
theorem hodmanref1_Of.L19_eq (M : Mach) (C : Call) (l4i : Nat) (l4o : Nat) (l4n : Nat) (i5 : Int) (r122_0 : Int) (r122_1 : Int) (r122_2 : Int) (r122_3 : Int) (r122_4 : Int) (r122_5 : Int) (x123_0 : Int) (x123_1 : Int) (x123_2 : Int) (x123_3 : Int) (x123_4 : Int) (x123_5 : Int) (x123_6 : Int) (x123_7 : Int) (G : GH) : hodmanref1_Of.L19 M C l4i l4o l4n i5 r122_0 r122_1 r122_2 r122_3 r122_4 r122_5 x123_0 x123_1 x123_2 x123_3 x123_4 x123_5 x123_6 x123_7 G = (bif decide (i5 < 4) then guardK (decide (0 ≤ i5 ∧ i5 < ((l4n : Nat) : Int))) (((G.ld l4i (l4o + Int.toNat i5 * 1)).bind (Cell.asI .i64)).bind fun qx_2 => bif decide (qx_2 < 1) then hodmanref1_Of.J13 M C l4i l4o l4n i5 true r122_0 r122_1 r122_2 r122_3 r122_4 r122_5 x123_0 x123_1 x123_2 x123_3 x123_4 x123_5 x123_6 x123_7 G else guardK (decide (0 ≤ i5 ∧ i5 < ((l4n : Nat) : Int))) (((G.ld l4i (l4o + Int.toNat i5 * 1)).bind (Cell.asI .i64)).bind fun qx_3 => hodmanref1_Of.J13 M C l4i l4o l4n i5 (decide (qx_3 > 65536)) r122_0 r122_1 r122_2 r122_3 r122_4 r122_5 x123_0 x123_1 x123_2 x123_3 x123_4 x123_5 x123_6 x123_7 G)) else bif decide (r122_4 < 0) then hodmanref1_Of.J27 M C true r122_0 r122_1 r122_2 r122_3 r122_4 r122_5 x123_0 x123_1 x123_2 x123_3 x123_4 x123_5 x123_6 x123_7 G else bif decide (r122_4 > 65536) then hodmanref1_Of.J27 M C true r122_0 r122_1 r122_2 r122_3 r122_4 r122_5 x123_0 x123_1 x123_2 x123_3 x123_4 x123_5 x123_6 x123_7 G else bif decide (r122_5 < 0) then hodmanref1_Of.J27 M C true r122_0 r122_1 r122_2 r122_3 r122_4 r122_5 x123_0 x123_1 x123_2 x123_3 x123_4 x123_5 x123_6 x123_7 G else hodmanref1_Of.J27 M C (decide (r122_5 > 255)) r122_0 r122_1 r122_2 r122_3 r122_4 r122_5 x123_0 x123_1 x123_2 x123_3 x123_4 x123_5 x123_6 x123_7 G) := (M.hs _ _ _ _ _ _ _).trans (by kernel_rfl)
theorem hodmanref1_Of.J13_eq (M : Mach) (C : Call) (l4i : Nat) (l4o : Nat) (l4n : Nat) (i5 : Int) (t31 : Bool) (r122_0 : Int) (r122_1 : Int) (r122_2 : Int) (r122_3 : Int) (r122_4 : Int) (r122_5 : Int) (x123_0 : Int) (x123_1 : Int) (x123_2 : Int) (x123_3 : Int) (x123_4 : Int) (x123_5 : Int) (x123_6 : Int) (x123_7 : Int) (G : GH) : hodmanref1_Of.J13 M C l4i l4o l4n i5 t31 r122_0 r122_1 r122_2 r122_3 r122_4 r122_5 x123_0 x123_1 x123_2 x123_3 x123_4 x123_5 x123_6 x123_7 G = (bif t31 then some ([.agg [.int .i64 0, .int .i64 0, .int .i64 0, .int .i64 0, .int .i64 0, .int .i64 0, .int .i64 0, .int .i64 0], .c (.int .i64 1)], G) else hodmanref1_Of.L19 M C l4i l4o l4n (IntKind.i64.wrap (i5 + 1)) r122_0 r122_1 r122_2 r122_3 r122_4 r122_5 x123_0 x123_1 x123_2 x123_3 x123_4 x123_5 x123_6 x123_7 G) := (M.hj _ _ _).trans (by kernel_rfl)
theorem hodmanref1_Of.J27_eq (M : Mach) (C : Call) (t50 : Bool) (r122_0 : Int) (r122_1 : Int) (r122_2 : Int) (r122_3 : Int) (r122_4 : Int) (r122_5 : Int) (x123_0 : Int) (x123_1 : Int) (x123_2 : Int) (x123_3 : Int) (x123_4 : Int) (x123_5 : Int) (x123_6 : Int) (x123_7 : Int) (G : GH) : hodmanref1_Of.J27 M C t50 r122_0 r122_1 r122_2 r122_3 r122_4 r122_5 x123_0 x123_1 x123_2 x123_3 x123_4 x123_5 x123_6 x123_7 G = (bif t50 then some ([.agg [.int .i64 0, .int .i64 0, .int .i64 0, .int .i64 0, .int .i64 0, .int .i64 0, .int .i64 0, .int .i64 0], .c (.int .i64 1)], G) else (C hodmanref1_Up.id [.c (.int .i64 r122_0)] G).bind fun qr_4 => (((qr_4.1[0]?).bind V1.c?).bind (Cell.asI .i64)).bind fun qx_5 => (((qr_4.1[1]?).bind V1.c?).bind Cell.asB).bind fun qb_6 => (C hodmanref1_Up.id [.c (.int .i64 (mx2 r122_1 qx_5))] qr_4.2).bind fun qr_7 => (((qr_7.1[0]?).bind V1.c?).bind (Cell.asI .i64)).bind fun qx_8 => (((qr_7.1[1]?).bind V1.c?).bind Cell.asB).bind fun qb_9 => (C hodmanref1_Up.id [.c (.int .i64 (mx2 r122_3 qx_5))] qr_7.2).bind fun qr_10 => (((qr_10.1[0]?).bind V1.c?).bind (Cell.asI .i64)).bind fun qx_11 => (((qr_10.1[1]?).bind V1.c?).bind Cell.asB).bind fun qb_12 => (C hodmanref1_Round.id [.c (.int .i64 r122_2), .c (.int .i64 (IntKind.i64.wrap (2 * (mx2 qx_8 qx_11))))] qr_10.2).bind fun qr_13 => (((qr_13.1[0]?).bind V1.c?).bind (Cell.asI .i64)).bind fun qx_14 => (((qr_13.1[1]?).bind V1.c?).bind Cell.asB).bind fun qb_15 => (binD .quo .i64 qx_8 qx_5).bind fun qx_16 => (C hodmanref1_Log.id [.c (.int .i64 qx_16)] qr_13.2).bind fun qr_17 => (((qr_17.1[0]?).bind V1.c?).bind (Cell.asI .i64)).bind fun qx_18 => (((qr_17.1[1]?).bind V1.c?).bind Cell.asB).bind fun qb_19 => bif decide (IntKind.i64.wrap (qx_14 + (IntKind.i64.wrap (qx_18 * (IntKind.i64.wrap (Int.tdiv qx_14 2))))) > 65536) then some ([.agg [.int .i64 0, .int .i64 0, .int .i64 0, .int .i64 0, .int .i64 0, .int .i64 0, .int .i64 0, .int .i64 0], .c (.int .i64 1)], qr_17.2) else some ([.agg [.int .i64 qx_5, .int .i64 qx_8, .int .i64 qx_14, .int .i64 qx_18, .int .i64 qx_11, .int .i64 r122_4, .int .i64 (IntKind.i64.wrap (qx_14 + (IntKind.i64.wrap (qx_18 * (IntKind.i64.wrap (Int.tdiv qx_14 2)))))), .int .i64 r122_5], .c (.int .i64 0)], qr_17.2)) := (M.hj _ _ _).trans (by kernel_rfl)
def hodmanref1_Of.f (M : Mach) (C : Call) (r0_0 : Int) (r0_1 : Int) (r0_2 : Int) (r0_3 : Int) (r0_4 : Int) (r0_5 : Int) (G : GH) : Option Res := let qG_1 := G.alloc (.row [.int .i64 r0_0, .int .i64 r0_1, .int .i64 r0_2, .int .i64 r0_3] false); hodmanref1_Of.L19 M C G.next 0 4 0 r0_0 r0_1 r0_2 r0_3 r0_4 r0_5 0 0 0 0 0 0 0 0 qG_1
theorem hodmanref1_Of.eq (M : Mach) (C : Call) (r0_0 : Int) (r0_1 : Int) (r0_2 : Int) (r0_3 : Int) (r0_4 : Int) (r0_5 : Int) (G : GH) : runF M C hodmanref1_Of.d [.agg [.int .i64 r0_0, .int .i64 r0_1, .int .i64 r0_2, .int .i64 r0_3, .int .i64 r0_4, .int .i64 r0_5]] G = hodmanref1_Of.f M C r0_0 r0_1 r0_2 r0_3 r0_4 r0_5 G := by kernel_rfl

/- 26 hodman/conf.Of -/
def conf_Of.c6 : DCode := (.cond (.t 35) (.seq (.region [⟨0, some 36, .build [.int .i64 0, .int .i64 0, .int .i64 0, .int .i64 0, .int .i64 0, .int .i64 0, .int .i64 0, .int .i64 0] [], none⟩,
    ⟨1, none, .stL 2 108 (.t 36) 8, none⟩,
    ⟨2, some 3, .move (.k (.c (.int .i64 1))), none⟩]) .ret) .skip)
def conf_Of.c32 : DCode := (.seq (.region [⟨0, some 37, .faddr 1 4, none⟩,
    ⟨1, some 38, .ldL 37 107 (.c (.int .i64)), none⟩,
    ⟨2, some 39, .faddr 1 5, none⟩,
    ⟨3, some 40, .ldL 39 107 (.c (.int .i64)), none⟩,
    ⟨4, some 41, .build [.int .i64 0, .int .i64 0, .int .i64 0, .int .i64 0, .int .i64 0, .int .i64 0, .int .i64 0, .int .i64 0] [(5, 1, .t 38), (7, 1, .t 40)], none⟩,
    ⟨5, some 4, .boxz 109 [48, 52, 58, 62, 68, 72, 74, 81, 83, 85, 91, 92, 94, 96, 101, 102] [.int .i64 0, .int .i64 0, .int .i64 0, .int .i64 0, .int .i64 0, .int .i64 0, .int .i64 0, .int .i64 0], none⟩,
    ⟨6, none, .stL 4 109 (.t 41) 8, none⟩]) (.seq (.region [⟨0, some 43, .faddr 1 0, none⟩,
    ⟨1, some 44, .ldL 43 107 (.c (.int .i64)), none⟩,
    ⟨2, some 45, .call 38 [.t 44] [.c (.int .i64), .c (.bool)], none⟩,
    ⟨3, some 42, .move (.t 45), none⟩,
    ⟨4, some 46, .ext 42 0, none⟩,
    ⟨5, some 47, .ext 42 1, none⟩,
    ⟨6, some 48, .faddr 4 0, none⟩,
    ⟨7, none, .stL 48 109 (.t 46) 1, none⟩]) (.seq (.region [⟨0, some 50, .faddr 1 1, none⟩,
    ⟨1, some 51, .ldL 50 107 (.c (.int .i64)), none⟩,
    ⟨2, some 52, .faddr 4 0, none⟩,
    ⟨3, some 53, .ldL 52 109 (.c (.int .i64)), none⟩,
    ⟨4, some 54, .mx (.t 51) [.t 53], none⟩,
    ⟨5, some 55, .call 38 [.t 54] [.c (.int .i64), .c (.bool)], none⟩,
    ⟨6, some 49, .move (.t 55), none⟩,
    ⟨7, some 56, .ext 49 0, none⟩,
    ⟨8, some 57, .ext 49 1, none⟩,
    ⟨9, some 58, .faddr 4 1, none⟩,
    ⟨10, none, .stL 58 109 (.t 56) 1, none⟩]) (.seq (.region [⟨0, some 60, .faddr 1 3, none⟩,
    ⟨1, some 61, .ldL 60 107 (.c (.int .i64)), none⟩,
    ⟨2, some 62, .faddr 4 0, none⟩,
    ⟨3, some 63, .ldL 62 109 (.c (.int .i64)), none⟩,
    ⟨4, some 64, .mx (.t 61) [.t 63], none⟩,
    ⟨5, some 65, .call 38 [.t 64] [.c (.int .i64), .c (.bool)], none⟩,
    ⟨6, some 59, .move (.t 65), none⟩,
    ⟨7, some 66, .ext 59 0, none⟩,
    ⟨8, some 67, .ext 59 1, none⟩,
    ⟨9, some 68, .faddr 4 4, none⟩,
    ⟨10, none, .stL 68 109 (.t 66) 1, none⟩]) (.seq (.region [⟨0, some 70, .faddr 1 2, none⟩,
    ⟨1, some 71, .ldL 70 107 (.c (.int .i64)), none⟩,
    ⟨2, some 72, .faddr 4 1, none⟩,
    ⟨3, some 73, .ldL 72 109 (.c (.int .i64)), none⟩,
    ⟨4, some 74, .faddr 4 4, none⟩,
    ⟨5, some 75, .ldL 74 109 (.c (.int .i64)), none⟩,
    ⟨6, some 76, .mx (.t 73) [.t 75], none⟩,
    ⟨7, some 77, .bin .shl .i64 (.t 76) (.k (.c (.int .u64 1))), none⟩,
    ⟨8, some 78, .call 47 [.t 71, .t 77] [.c (.int .i64), .c (.bool)], none⟩,
    ⟨9, some 69, .move (.t 78), none⟩,
    ⟨10, some 79, .ext 69 0, none⟩,
    ⟨11, some 80, .ext 69 1, none⟩,
    ⟨12, some 81, .faddr 4 2, none⟩,
    ⟨13, none, .stL 81 109 (.t 79) 1, none⟩]) (.seq (.region [⟨0, some 83, .faddr 4 1, none⟩,
    ⟨1, some 84, .ldL 83 109 (.c (.int .i64)), none⟩,
    ⟨2, some 85, .faddr 4 0, none⟩,
    ⟨3, some 86, .ldL 85 109 (.c (.int .i64)), none⟩,
    ⟨4, some 87, .bin .quo .i64 (.t 84) (.t 86), none⟩,
    ⟨5, some 88, .call 37 [.t 87] [.c (.int .i64), .c (.bool)], none⟩,
    ⟨6, some 82, .move (.t 88), none⟩,
    ⟨7, some 89, .ext 82 0, none⟩,
    ⟨8, some 90, .ext 82 1, none⟩,
    ⟨9, some 91, .faddr 4 3, none⟩,
    ⟨10, none, .stL 91 109 (.t 89) 1, none⟩]) (.seq (.region [⟨0, some 92, .faddr 4 2, none⟩,
    ⟨1, some 93, .ldL 92 109 (.c (.int .i64)), none⟩,
    ⟨2, some 94, .faddr 4 3, none⟩,
    ⟨3, some 95, .ldL 94 109 (.c (.int .i64)), none⟩,
    ⟨4, some 96, .faddr 4 2, none⟩,
    ⟨5, some 97, .ldL 96 109 (.c (.int .i64)), none⟩,
    ⟨6, some 98, .bin .shr .i64 (.t 97) (.k (.c (.int .u64 1))), none⟩,
    ⟨7, some 99, .bin .mul .i64 (.t 95) (.t 98), none⟩,
    ⟨8, some 100, .bin .add .i64 (.t 93) (.t 99), none⟩,
    ⟨9, some 101, .faddr 4 6, none⟩,
    ⟨10, none, .stL 101 109 (.t 100) 1, none⟩]) (.seq (.seq (.region [⟨0, some 102, .faddr 4 6, none⟩,
    ⟨1, some 103, .ldL 102 109 (.c (.int .i64)), none⟩,
    ⟨2, some 104, .cmp .gtr .i64 (.t 103) (.k (.c (.int .i64 65536))), none⟩]) (.cond (.t 104) (.seq (.region [⟨0, some 105, .build [.int .i64 0, .int .i64 0, .int .i64 0, .int .i64 0, .int .i64 0, .int .i64 0, .int .i64 0, .int .i64 0] [], none⟩,
    ⟨1, none, .stL 2 108 (.t 105) 8, none⟩,
    ⟨2, some 3, .move (.k (.c (.int .i64 1))), none⟩]) .ret) .skip)) (.seq (.region [⟨0, some 106, .ldL 4 109 (.agg [.int .i64, .int .i64, .int .i64, .int .i64, .int .i64, .int .i64, .int .i64, .int .i64]), none⟩,
    ⟨1, none, .stL 2 108 (.t 106) 8, none⟩,
    ⟨2, some 3, .move (.k (.c (.int .i64 0))), none⟩]) .ret)))))))))
def conf_Of.d : DFn := { ntmps := 110, res := [.box 2 (some 8), .t 3], body := (.seq (.region [⟨0, some 1, .boxv 107 [5, 7, 9, 11, 17, 22, 27, 32, 37, 39, 43, 50, 60, 70] (.t 0) 6, none⟩,
    ⟨1, some 2, .boxz 108 [] [.int .i64 0, .int .i64 0, .int .i64 0, .int .i64 0, .int .i64 0, .int .i64 0, .int .i64 0, .int .i64 0], none⟩,
    ⟨2, some 3, .move (.k (.c (.int .i64 0))), none⟩]) (.seq (.seq (.region [⟨0, some 5, .faddr 1 0, none⟩,
    ⟨1, some 6, .ldL 5 107 (.c (.int .i64)), none⟩,
    ⟨2, some 7, .faddr 1 1, none⟩,
    ⟨3, some 8, .ldL 7 107 (.c (.int .i64)), none⟩,
    ⟨4, some 9, .faddr 1 2, none⟩,
    ⟨5, some 10, .ldL 9 107 (.c (.int .i64)), none⟩,
    ⟨6, some 11, .faddr 1 3, none⟩,
    ⟨7, some 12, .ldL 11 107 (.c (.int .i64)), none⟩,
    ⟨8, some 13, .bslice 4 1 [.int .i64 0, .int .i64 0, .int .i64 0, .int .i64 0] [(0, 1, .t 6), (1, 1, .t 8), (2, 1, .t 10), (3, 1, .t 12)], none⟩,
    ⟨9, some 14, .call 46 [.t 13] [.c (.bool)], none⟩,
    ⟨10, some 15, .not (.t 14), none⟩,
    ⟨11, some 16, .move (.t 15), none⟩,
    ⟨12, some 17, .faddr 1 4, some (16, false)⟩,
    ⟨13, some 18, .ldL 17 107 (.c (.int .i64)), some (16, false)⟩,
    ⟨14, some 19, .cmp .lss .i64 (.t 18) (.k (.c (.int .i64 0))), some (16, false)⟩,
    ⟨15, some 20, .pick (.t 16) (.k (.c (.bool true))) (.t 19), none⟩,
    ⟨16, some 21, .move (.t 20), none⟩,
    ⟨17, some 22, .faddr 1 4, some (21, false)⟩,
    ⟨18, some 23, .ldL 22 107 (.c (.int .i64)), some (21, false)⟩,
    ⟨19, some 24, .cmp .gtr .i64 (.t 23) (.k (.c (.int .i64 65536))), some (21, false)⟩,
    ⟨20, some 25, .pick (.t 21) (.k (.c (.bool true))) (.t 24), none⟩,
    ⟨21, some 26, .move (.t 25), none⟩,
    ⟨22, some 27, .faddr 1 5, some (26, false)⟩,
    ⟨23, some 28, .ldL 27 107 (.c (.int .i64)), some (26, false)⟩,
    ⟨24, some 29, .cmp .lss .i64 (.t 28) (.k (.c (.int .i64 0))), some (26, false)⟩,
    ⟨25, some 30, .pick (.t 26) (.k (.c (.bool true))) (.t 29), none⟩,
    ⟨26, some 31, .move (.t 30), none⟩,
    ⟨27, some 32, .faddr 1 5, some (31, false)⟩,
    ⟨28, some 33, .ldL 32 107 (.c (.int .i64)), some (31, false)⟩,
    ⟨29, some 34, .cmp .gtr .i64 (.t 33) (.k (.c (.int .i64 255))), some (31, false)⟩,
    ⟨30, some 35, .pick (.t 31) (.k (.c (.bool true))) (.t 34), none⟩]) (.cut [1, 2, 35, 107, 108] conf_Of.c6)) conf_Of.c32)) }
def conf_Of.k32 (M : Mach) (C : Call) : Kont := execC M.j C (M.ag C) conf_Of.c32 ({ exits := [], ret := retK conf_Of.d } : Env) (retK conf_Of.d)
def conf_Of.J6 (M : Mach) (C : Call) (t35 : Bool) (r107_0 : Int) (r107_1 : Int) (r107_2 : Int) (r107_3 : Int) (r107_4 : Int) (r107_5 : Int) (x108_0 : Int) (x108_1 : Int) (x108_2 : Int) (x108_3 : Int) (x108_4 : Int) (x108_5 : Int) (x108_6 : Int) (x108_7 : Int) (G : GH) : Option Res := M.j (execC M.j C (M.ag C) conf_Of.c6 ({ exits := [], ret := retK conf_Of.d } : Env) (conf_Of.k32 M C)) [.und, .ref 107 0, .ref 108 0, .und, .und, .und, .und, .und, .und, .und, .und, .und, .und, .und, .und, .und, .und, .und, .und, .und, .und, .und, .und, .und, .und, .und, .und, .und, .und, .und, .und, .und, .und, .und, .und, .v (.c (.bool t35)), .und, .und, .und, .und, .und, .und, .und, .und, .und, .und, .und, .und, .und, .und, .und, .und, .und, .und, .und, .und, .und, .und, .und, .und, .und, .und, .und, .und, .und, .und, .und, .und, .und, .und, .und, .und, .und, .und, .und, .und, .und, .und, .und, .und, .und, .und, .und, .und, .und, .und, .und, .und, .und, .und, .und, .und, .und, .und, .und, .und, .und, .und, .und, .und, .und, .und, .und, .und, .und, .und, .und, .box [.int .i64 r107_0, .int .i64 r107_1, .int .i64 r107_2, .int .i64 r107_3, .int .i64 r107_4, .int .i64 r107_5], .box [.int .i64 x108_0, .int .i64 x108_1, .int .i64 x108_2, .int .i64 x108_3, .int .i64 x108_4, .int .i64 x108_5, .int .i64 x108_6, .int .i64 x108_7], .und] G
theorem conf_Of.J6_eq (M : Mach) (C : Call) (t35 : Bool) (r107_0 : Int) (r107_1 : Int) (r107_2 : Int) (r107_3 : Int) (r107_4 : Int) (r107_5 : Int) (x108_0 : Int) (x108_1 : Int) (x108_2 : Int) (x108_3 : Int) (x108_4 : Int) (x108_5 : Int) (x108_6 : Int) (x108_7 : Int) (G : GH) : conf_Of.J6 M C t35 r107_0 r107_1 r107_2 r107_3 r107_4 r107_5 x108_0 x108_1 x108_2 x108_3 x108_4 x108_5 x108_6 x108_7 G = (bif t35 then some ([.agg [.int .i64 0, .int .i64 0, .int .i64 0, .int .i64 0, .int .i64 0, .int .i64 0, .int .i64 0, .int .i64 0], .c (.int .i64 1)], G) else (C calc_Up.id [.c (.int .i64 r107_0)] G).bind fun qr_4 => (((qr_4.1[0]?).bind V1.c?).bind (Cell.asI .i64)).bind fun qx_5 => (((qr_4.1[1]?).bind V1.c?).bind Cell.asB).bind fun qb_6 => (C calc_Up.id [.c (.int .i64 (mx2 r107_1 qx_5))] qr_4.2).bind fun qr_7 => (((qr_7.1[0]?).bind V1.c?).bind (Cell.asI .i64)).bind fun qx_8 => (((qr_7.1[1]?).bind V1.c?).bind Cell.asB).bind fun qb_9 => (C calc_Up.id [.c (.int .i64 (mx2 r107_3 qx_5))] qr_7.2).bind fun qr_10 => (((qr_10.1[0]?).bind V1.c?).bind (Cell.asI .i64)).bind fun qx_11 => (((qr_10.1[1]?).bind V1.c?).bind Cell.asB).bind fun qb_12 => (C calc_Round.id [.c (.int .i64 r107_2), .c (.int .i64 (IntKind.i64.wrap ((mx2 qx_8 qx_11) * 2 ^ (min (1 : Int).toNat IntKind.i64.bits))))] qr_10.2).bind fun qr_13 => (((qr_13.1[0]?).bind V1.c?).bind (Cell.asI .i64)).bind fun qx_14 => (((qr_13.1[1]?).bind V1.c?).bind Cell.asB).bind fun qb_15 => (binD .quo .i64 qx_8 qx_5).bind fun qx_16 => (C calc_Log.id [.c (.int .i64 qx_16)] qr_13.2).bind fun qr_17 => (((qr_17.1[0]?).bind V1.c?).bind (Cell.asI .i64)).bind fun qx_18 => (((qr_17.1[1]?).bind V1.c?).bind Cell.asB).bind fun qb_19 => bif decide (IntKind.i64.wrap (qx_14 + (IntKind.i64.wrap (qx_18 * (Int.fdiv qx_14 (2 ^ (min (1 : Int).toNat IntKind.i64.bits)))))) > 65536) then some ([.agg [.int .i64 0, .int .i64 0, .int .i64 0, .int .i64 0, .int .i64 0, .int .i64 0, .int .i64 0, .int .i64 0], .c (.int .i64 1)], qr_17.2) else some ([.agg [.int .i64 qx_5, .int .i64 qx_8, .int .i64 qx_14, .int .i64 qx_18, .int .i64 qx_11, .int .i64 r107_4, .int .i64 (IntKind.i64.wrap (qx_14 + (IntKind.i64.wrap (qx_18 * (Int.fdiv qx_14 (2 ^ (min (1 : Int).toNat IntKind.i64.bits))))))), .int .i64 r107_5], .c (.int .i64 0)], qr_17.2)) := (M.hj _ _ _).trans (by kernel_rfl)
def conf_Of.f (M : Mach) (C : Call) (r0_0 : Int) (r0_1 : Int) (r0_2 : Int) (r0_3 : Int) (r0_4 : Int) (r0_5 : Int) (G : GH) : Option Res := let qG_1 := G.alloc (.row [.int .i64 r0_0, .int .i64 r0_1, .int .i64 r0_2, .int .i64 r0_3] false); (C conf_within.id [.c (.sl 1 G.next 0 4)] qG_1).bind fun qr_2 => (((qr_2.1[0]?).bind V1.c?).bind Cell.asB).bind fun qb_3 => bif (!qb_3) then conf_Of.J6 M C true r0_0 r0_1 r0_2 r0_3 r0_4 r0_5 0 0 0 0 0 0 0 0 qr_2.2 else bif decide (r0_4 < 0) then conf_Of.J6 M C true r0_0 r0_1 r0_2 r0_3 r0_4 r0_5 0 0 0 0 0 0 0 0 qr_2.2 else bif decide (r0_4 > 65536) then conf_Of.J6 M C true r0_0 r0_1 r0_2 r0_3 r0_4 r0_5 0 0 0 0 0 0 0 0 qr_2.2 else bif decide (r0_5 < 0) then conf_Of.J6 M C true r0_0 r0_1 r0_2 r0_3 r0_4 r0_5 0 0 0 0 0 0 0 0 qr_2.2 else conf_Of.J6 M C (decide (r0_5 > 255)) r0_0 r0_1 r0_2 r0_3 r0_4 r0_5 0 0 0 0 0 0 0 0 qr_2.2
theorem conf_Of.eq (M : Mach) (C : Call) (r0_0 : Int) (r0_1 : Int) (r0_2 : Int) (r0_3 : Int) (r0_4 : Int) (r0_5 : Int) (G : GH) : runF M C conf_Of.d [.agg [.int .i64 r0_0, .int .i64 r0_1, .int .i64 r0_2, .int .i64 r0_3, .int .i64 r0_4, .int .i64 r0_5]] G = conf_Of.f M C r0_0 r0_1 r0_2 r0_3 r0_4 r0_5 G := by kernel_rfl

/- 24 hodman/hodmanlaw2.begun -/
def hodmanlaw2_begun.d : DFn := { ntmps := 47, res := [.t 0], body := (.seq (.region [⟨0, some 0, .move (.k (.c (.bool false))), none⟩]) (.seq (.region [⟨0, some 8, .build [.int .i64 0, .int .i64 0, .int .i64 0, .int .i64 0, .int .i64 0, .int .i64 0] [(0, 1, .k (.c (.int .i64 1))), (1, 1, .k (.c (.int .i64 4))), (2, 1, .k (.c (.int .i64 8))), (3, 1, .k (.c (.int .i64 4))), (4, 1, .k (.c (.int .i64 6)))], none⟩,
    ⟨1, some 9, .call 26 [.t 8] [.agg [.int .i64, .int .i64, .int .i64, .int .i64, .int .i64, .int .i64, .int .i64, .int .i64], .c (.int .i64)], none⟩,
    ⟨2, some 7, .move (.t 9), none⟩,
    ⟨3, some 10, .ext 7 0, none⟩,
    ⟨4, some 11, .ext 7 1, none⟩,
    ⟨5, some 1, .boxz 45 [] [.int .i64 0, .int .i64 0, .int .i64 0, .int .i64 0, .int .i64 0, .int .i64 0, .int .i64 0, .int .i64 0], none⟩,
    ⟨6, none, .stL 1 45 (.t 10) 8, none⟩,
    ⟨7, some 2, .move (.t 11), none⟩]) (.seq (.region [⟨0, some 13, .build [.int .i64 0, .int .i64 0, .int .i64 0, .int .i64 0, .int .i64 0, .int .i64 0] [], none⟩,
    ⟨1, some 14, .call 26 [.t 13] [.agg [.int .i64, .int .i64, .int .i64, .int .i64, .int .i64, .int .i64, .int .i64, .int .i64], .c (.int .i64)], none⟩,
    ⟨2, some 12, .move (.t 14), none⟩,
    ⟨3, some 15, .ext 12 0, none⟩,
    ⟨4, some 16, .ext 12 1, none⟩,
    ⟨5, some 3, .boxz 46 [] [.int .i64 0, .int .i64 0, .int .i64 0, .int .i64 0, .int .i64 0, .int .i64 0, .int .i64 0, .int .i64 0], none⟩,
    ⟨6, none, .stL 3 46 (.t 15) 8, none⟩,
    ⟨7, some 4, .move (.t 16), none⟩]) (.seq (.region [⟨0, some 18, .ldL 1 45 (.agg [.int .i64, .int .i64, .int .i64, .int .i64, .int .i64, .int .i64, .int .i64, .int .i64]), none⟩,
    ⟨1, some 19, .call 27 [.t 18, .k (.c (.int .i64 4))] [.c (.int .i64), .c (.bool)], none⟩,
    ⟨2, some 17, .move (.t 19), none⟩,
    ⟨3, some 20, .ext 17 0, none⟩,
    ⟨4, some 21, .ext 17 1, none⟩,
    ⟨5, some 5, .move (.t 20), none⟩,
    ⟨6, some 6, .move (.t 21), none⟩]) (.seq (.region [⟨0, some 22, .move (.t 2), none⟩,
    ⟨1, some 23, .cmp .eql .i64 (.t 22) (.k (.c (.int .i64 0))), none⟩,
    ⟨2, some 24, .move (.t 23), none⟩,
    ⟨3, some 25, .ldL 1 45 (.agg [.int .i64, .int .i64, .int .i64, .int .i64, .int .i64, .int .i64, .int .i64, .int .i64]), some (24, true)⟩,
    ⟨4, some 26, .build [.int .i64 0, .int .i64 0, .int .i64 0, .int .i64 0, .int .i64 0, .int .i64 0, .int .i64 0, .int .i64 0] [(0, 1, .k (.c (.int .i64 1))), (1, 1, .k (.c (.int .i64 4))), (2, 1, .k (.c (.int .i64 8))), (3, 1, .k (.c (.int .i64 2))), (4, 1, .k (.c (.int .i64 4))), (5, 1, .k (.c (.int .i64 6))), (6, 1, .k (.c (.int .i64 16)))], some (24, true)⟩,
    ⟨5, some 27, .aeq false [.int .i64, .int .i64, .int .i64, .int .i64, .int .i64, .int .i64, .int .i64, .int .i64] (.t 25) (.t 26), some (24, true)⟩,
    ⟨6, some 28, .pick (.t 24) (.t 27) (.k (.c (.bool false))), none⟩,
    ⟨7, some 29, .move (.t 28), none⟩,
    ⟨8, some 30, .move (.t 4), some (29, true)⟩,
    ⟨9, some 31, .cmp .eql .i64 (.t 30) (.k (.c (.int .i64 1))), some (29, true)⟩,
    ⟨10, some 32, .pick (.t 29) (.t 31) (.k (.c (.bool false))), none⟩,
    ⟨11, some 33, .move (.t 32), none⟩,
    ⟨12, some 34, .ldL 1 45 (.agg [.int .i64, .int .i64, .int .i64, .int .i64, .int .i64, .int .i64, .int .i64, .int .i64]), some (33, true)⟩,
    ⟨13, some 35, .call 28 [.t 34, .k (.c (.int .i64 1))] [.c (.int .i64)], some (33, true)⟩,
    ⟨14, some 36, .cmp .eql .i64 (.t 35) (.k (.c (.int .i64 12))), some (33, true)⟩,
    ⟨15, some 37, .pick (.t 33) (.t 36) (.k (.c (.bool false))), none⟩,
    ⟨16, some 38, .move (.t 37), none⟩,
    ⟨17, some 39, .move (.t 5), some (38, true)⟩,
    ⟨18, some 40, .cmp .eql .i64 (.t 39) (.k (.c (.int .i64 2))), some (38, true)⟩,
    ⟨19, some 41, .pick (.t 38) (.t 40) (.k (.c (.bool false))), none⟩,
    ⟨20, some 42, .move (.t 41), none⟩,
    ⟨21, some 43, .move (.t 6), some (42, true)⟩,
    ⟨22, some 44, .pick (.t 42) (.t 43) (.k (.c (.bool false))), none⟩,
    ⟨23, some 0, .move (.t 44), none⟩]) .ret))))) }
def hodmanlaw2_begun.f (M : Mach) (C : Call)  (G : GH) : Option Res := (C conf_Of.id [.agg [.int .i64 1, .int .i64 4, .int .i64 8, .int .i64 4, .int .i64 6, .int .i64 0]] G).bind fun qr_1 => ((qr_1.1[0]?).bind V1.a?).bind fun qcs_2 => if qcs_2.length = 8 then (((qcs_2[0]?).bind (Cell.asI .i64)).bind fun qx_3 => ((qcs_2[1]?).bind (Cell.asI .i64)).bind fun qx_4 => ((qcs_2[2]?).bind (Cell.asI .i64)).bind fun qx_5 => ((qcs_2[3]?).bind (Cell.asI .i64)).bind fun qx_6 => ((qcs_2[4]?).bind (Cell.asI .i64)).bind fun qx_7 => ((qcs_2[5]?).bind (Cell.asI .i64)).bind fun qx_8 => ((qcs_2[6]?).bind (Cell.asI .i64)).bind fun qx_9 => ((qcs_2[7]?).bind (Cell.asI .i64)).bind fun qx_10 => (((qr_1.1[1]?).bind V1.c?).bind (Cell.asI .i64)).bind fun qx_11 => (C conf_Of.id [.agg [.int .i64 0, .int .i64 0, .int .i64 0, .int .i64 0, .int .i64 0, .int .i64 0]] qr_1.2).bind fun qr_12 => ((qr_12.1[0]?).bind V1.a?).bind fun qcs_13 => if qcs_13.length = 8 then (((qcs_13[0]?).bind (Cell.asI .i64)).bind fun qx_14 => ((qcs_13[1]?).bind (Cell.asI .i64)).bind fun qx_15 => ((qcs_13[2]?).bind (Cell.asI .i64)).bind fun qx_16 => ((qcs_13[3]?).bind (Cell.asI .i64)).bind fun qx_17 => ((qcs_13[4]?).bind (Cell.asI .i64)).bind fun qx_18 => ((qcs_13[5]?).bind (Cell.asI .i64)).bind fun qx_19 => ((qcs_13[6]?).bind (Cell.asI .i64)).bind fun qx_20 => ((qcs_13[7]?).bind (Cell.asI .i64)).bind fun qx_21 => (((qr_12.1[1]?).bind V1.c?).bind (Cell.asI .i64)).bind fun qx_22 => (C conf_Shift.id [.agg [.int .i64 qx_3, .int .i64 qx_4, .int .i64 qx_5, .int .i64 qx_6, .int .i64 qx_7, .int .i64 qx_8, .int .i64 qx_9, .int .i64 qx_10], .c (.int .i64 4)] qr_12.2).bind fun qr_23 => (((qr_23.1[0]?).bind V1.c?).bind (Cell.asI .i64)).bind fun qx_24 => (((qr_23.1[1]?).bind V1.c?).bind Cell.asB).bind fun qb_25 => bif decide (qx_11 = 0) then bif Bool.xor false (decide (qx_3 = 1) && (decide (qx_4 = 4) && (decide (qx_5 = 8) && (decide (qx_6 = 2) && (decide (qx_7 = 4) && (decide (qx_8 = 6) && (decide (qx_9 = 16) && (decide (qx_10 = 0) && true)))))))) then bif decide (qx_22 = 1) then (C conf_Ceil.id [.agg [.int .i64 qx_3, .int .i64 qx_4, .int .i64 qx_5, .int .i64 qx_6, .int .i64 qx_7, .int .i64 qx_8, .int .i64 qx_9, .int .i64 qx_10], .c (.int .i64 1)] qr_23.2).bind fun qr_26 => (((qr_26.1[0]?).bind V1.c?).bind (Cell.asI .i64)).bind fun qx_27 => bif decide (qx_27 = 12) then bif decide (qx_24 = 2) then some ([.c (.bool qb_25)], qr_26.2) else some ([.c (.bool false)], qr_26.2) else some ([.c (.bool false)], qr_26.2) else some ([.c (.bool false)], qr_23.2) else some ([.c (.bool false)], qr_23.2) else some ([.c (.bool false)], qr_23.2)) else none) else none
theorem hodmanlaw2_begun.eq (M : Mach) (C : Call)  (G : GH) : runF M C hodmanlaw2_begun.d [] G = hodmanlaw2_begun.f M C  G := by kernel_rfl

/- 27 hodman/conf.Shift -/
def conf_Shift.c6 : DCode := (.cond (.t 23) (.seq (.region [⟨0, some 4, .move (.k (.c (.int .i64 0))), none⟩,
    ⟨1, some 5, .move (.k (.c (.bool false))), none⟩]) .ret) .skip)
def conf_Shift.c14 : DCode := (.cond (.t 39) (.seq (.region [⟨0, some 4, .move (.k (.c (.int .i64 0))), none⟩,
    ⟨1, some 5, .move (.k (.c (.bool false))), none⟩]) .ret) .skip)
def conf_Shift.c18 : DCode := (.seq (.region [⟨0, some 40, .move (.t 6), none⟩,
    ⟨1, some 4, .move (.t 40), none⟩,
    ⟨2, some 5, .move (.k (.c (.bool true))), none⟩]) .ret)
def conf_Shift.c20 : DCode := (.seq (.region [⟨0, some 25, .move (.t 1), none⟩,
    ⟨1, some 26, .faddr 2 0, none⟩,
    ⟨2, some 27, .ldL 26 41 (.c (.int .i64)), none⟩,
    ⟨3, some 28, .bin .quo .i64 (.t 25) (.t 27), none⟩,
    ⟨4, some 29, .call 37 [.t 28] [.c (.int .i64), .c (.bool)], none⟩,
    ⟨5, some 24, .move (.t 29), none⟩,
    ⟨6, some 30, .ext 24 0, none⟩,
    ⟨7, some 31, .ext 24 1, none⟩,
    ⟨8, some 6, .move (.t 30), none⟩,
    ⟨9, some 7, .move (.t 31), none⟩]) (.seq (.seq (.region [⟨0, some 32, .move (.t 7), none⟩,
    ⟨1, some 33, .not (.t 32), none⟩,
    ⟨2, some 34, .move (.t 33), none⟩,
    ⟨3, some 35, .move (.t 6), some (34, false)⟩,
    ⟨4, some 36, .faddr 2 3, some (34, false)⟩,
    ⟨5, some 37, .ldL 36 41 (.c (.int .i64)), some (34, false)⟩,
    ⟨6, some 38, .cmp .gtr .i64 (.t 35) (.t 37), some (34, false)⟩,
    ⟨7, some 39, .pick (.t 34) (.k (.c (.bool true))) (.t 38), none⟩]) (.cut [6, 39] conf_Shift.c14)) conf_Shift.c18))
def conf_Shift.d : DFn := { ntmps := 42, res := [.t 4, .t 5], body := (.seq (.region [⟨0, some 2, .boxv 41 [8, 13, 19, 26, 36] (.t 0) 8, none⟩,
    ⟨1, some 4, .move (.k (.c (.int .i64 0))), none⟩,
    ⟨2, some 5, .move (.k (.c (.bool false))), none⟩]) (.seq (.seq (.region [⟨0, some 8, .faddr 2 0, none⟩,
    ⟨1, some 9, .ldL 8 41 (.c (.int .i64)), none⟩,
    ⟨2, some 10, .cmp .lss .i64 (.t 9) (.k (.c (.int .i64 1))), none⟩,
    ⟨3, some 11, .move (.t 10), none⟩,
    ⟨4, some 12, .move (.t 1), some (11, false)⟩,
    ⟨5, some 13, .faddr 2 0, some (11, false)⟩,
    ⟨6, some 14, .ldL 13 41 (.c (.int .i64)), some (11, false)⟩,
    ⟨7, some 15, .cmp .lss .i64 (.t 12) (.t 14), some (11, false)⟩,
    ⟨8, some 16, .pick (.t 11) (.k (.c (.bool true))) (.t 15), none⟩,
    ⟨9, some 17, .move (.t 16), none⟩,
    ⟨10, some 18, .move (.t 1), some (17, false)⟩,
    ⟨11, some 19, .faddr 2 0, some (17, false)⟩,
    ⟨12, some 20, .ldL 19 41 (.c (.int .i64)), some (17, false)⟩,
    ⟨13, some 21, .bin .rem .i64 (.t 18) (.t 20), some (17, false)⟩,
    ⟨14, some 22, .cmp .neq .i64 (.t 21) (.k (.c (.int .i64 0))), some (17, false)⟩,
    ⟨15, some 23, .pick (.t 17) (.k (.c (.bool true))) (.t 22), none⟩]) (.cut [1, 2, 23, 41] conf_Shift.c6)) conf_Shift.c20)) }
def conf_Shift.k20 (M : Mach) (C : Call) : Kont := execC M.j C (M.ag C) conf_Shift.c20 ({ exits := [], ret := retK conf_Shift.d } : Env) (retK conf_Shift.d)
def conf_Shift.J6 (M : Mach) (C : Call) (charge1 : Int) (t23 : Bool) (c41_0 : Int) (c41_1 : Int) (c41_2 : Int) (c41_3 : Int) (c41_4 : Int) (c41_5 : Int) (c41_6 : Int) (c41_7 : Int) (G : GH) : Option Res := M.j (execC M.j C (M.ag C) conf_Shift.c6 ({ exits := [], ret := retK conf_Shift.d } : Env) (conf_Shift.k20 M C)) [.und, .v (.c (.int .i64 charge1)), .ref 41 0, .und, .und, .und, .und, .und, .und, .und, .und, .und, .und, .und, .und, .und, .und, .und, .und, .und, .und, .und, .und, .v (.c (.bool t23)), .und, .und, .und, .und, .und, .und, .und, .und, .und, .und, .und, .und, .und, .und, .und, .und, .und, .box [.int .i64 c41_0, .int .i64 c41_1, .int .i64 c41_2, .int .i64 c41_3, .int .i64 c41_4, .int .i64 c41_5, .int .i64 c41_6, .int .i64 c41_7]] G
def conf_Shift.k18 (M : Mach) (C : Call) : Kont := execC M.j C (M.ag C) conf_Shift.c18 ({ exits := [], ret := retK conf_Shift.d } : Env) (retK conf_Shift.d)
def conf_Shift.J14 (M : Mach) (C : Call) (class6 : Int) (t39 : Bool) (G : GH) : Option Res := M.j (execC M.j C (M.ag C) conf_Shift.c14 ({ exits := [], ret := retK conf_Shift.d } : Env) (conf_Shift.k18 M C)) [.und, .und, .und, .und, .und, .und, .v (.c (.int .i64 class6)), .und, .und, .und, .und, .und, .und, .und, .und, .und, .und, .und, .und, .und, .und, .und, .und, .und, .und, .und, .und, .und, .und, .und, .und, .und, .und, .und, .und, .und, .und, .und, .und, .v (.c (.bool t39)), .und, .und] G
theorem conf_Shift.J6_eq (M : Mach) (C : Call) (charge1 : Int) (t23 : Bool) (c41_0 : Int) (c41_1 : Int) (c41_2 : Int) (c41_3 : Int) (c41_4 : Int) (c41_5 : Int) (c41_6 : Int) (c41_7 : Int) (G : GH) : conf_Shift.J6 M C charge1 t23 c41_0 c41_1 c41_2 c41_3 c41_4 c41_5 c41_6 c41_7 G = (bif t23 then some ([.c (.int .i64 0), .c (.bool false)], G) else (binD .quo .i64 charge1 c41_0).bind fun qx_2 => (C calc_Log.id [.c (.int .i64 qx_2)] G).bind fun qr_3 => (((qr_3.1[0]?).bind V1.c?).bind (Cell.asI .i64)).bind fun qx_4 => (((qr_3.1[1]?).bind V1.c?).bind Cell.asB).bind fun qb_5 => bif (!qb_5) then conf_Shift.J14 M C qx_4 true qr_3.2 else conf_Shift.J14 M C qx_4 (decide (qx_4 > c41_3)) qr_3.2) := (M.hj _ _ _).trans (by kernel_rfl)
theorem conf_Shift.J14_eq (M : Mach) (C : Call) (class6 : Int) (t39 : Bool) (G : GH) : conf_Shift.J14 M C class6 t39 G = (bif t39 then some ([.c (.int .i64 0), .c (.bool false)], G) else some ([.c (.int .i64 class6), .c (.bool true)], G)) := (M.hj _ _ _).trans (by kernel_rfl)
def conf_Shift.f (M : Mach) (C : Call) (c0_0 : Int) (c0_1 : Int) (c0_2 : Int) (c0_3 : Int) (c0_4 : Int) (c0_5 : Int) (c0_6 : Int) (c0_7 : Int) (charge1 : Int) (G : GH) : Option Res := bif decide (c0_0 < 1) then conf_Shift.J6 M C charge1 true c0_0 c0_1 c0_2 c0_3 c0_4 c0_5 c0_6 c0_7 G else bif decide (charge1 < c0_0) then conf_Shift.J6 M C charge1 true c0_0 c0_1 c0_2 c0_3 c0_4 c0_5 c0_6 c0_7 G else (binD .rem .i64 charge1 c0_0).bind fun qx_1 => conf_Shift.J6 M C charge1 (!decide (qx_1 = 0)) c0_0 c0_1 c0_2 c0_3 c0_4 c0_5 c0_6 c0_7 G
theorem conf_Shift.eq (M : Mach) (C : Call) (c0_0 : Int) (c0_1 : Int) (c0_2 : Int) (c0_3 : Int) (c0_4 : Int) (c0_5 : Int) (c0_6 : Int) (c0_7 : Int) (charge1 : Int) (G : GH) : runF M C conf_Shift.d [.agg [.int .i64 c0_0, .int .i64 c0_1, .int .i64 c0_2, .int .i64 c0_3, .int .i64 c0_4, .int .i64 c0_5, .int .i64 c0_6, .int .i64 c0_7], .c (.int .i64 charge1)] G = conf_Shift.f M C c0_0 c0_1 c0_2 c0_3 c0_4 c0_5 c0_6 c0_7 charge1 G := by kernel_rfl

/- 25 (*hodman/hodmanplay.Picks).Raw -/
def hodmanplay_Picks_Raw.c10 : DCode := (.seq (.region [⟨0, some 30, .ldL 6 32 (.agg [.int .i64, .int .i64, .int .i64, .int .i64, .int .i64, .int .i64]), none⟩,
    ⟨1, none, .stL 4 31 (.t 30) 6, none⟩]) .ret)
def hodmanplay_Picks_Raw.d : DFn := { ntmps := 33, res := [.box 4 (some 6)], body := (.seq (.region [⟨0, some 4, .boxz 31 [] [.int .i64 0, .int .i64 0, .int .i64 0, .int .i64 0, .int .i64 0, .int .i64 0], none⟩]) (.seq (.region [⟨0, some 7, .move (.t 0), none⟩,
    ⟨1, some 8, .call 45 [.t 7, .k (.c (.int .i64 9))] [.c (.int .i64)], none⟩,
    ⟨2, some 9, .bin .add .i64 (.k (.c (.int .i64 1))) (.t 8), none⟩,
    ⟨3, some 5, .move (.t 9), none⟩]) (.seq (.region [⟨0, some 10, .move (.t 5), none⟩,
    ⟨1, some 11, .move (.t 5), none⟩,
    ⟨2, some 12, .move (.t 0), none⟩,
    ⟨3, some 13, .call 45 [.t 12, .k (.c (.int .i64 12))] [.c (.int .i64)], none⟩,
    ⟨4, some 14, .bin .add .i64 (.k (.c (.int .i64 1))) (.t 13), none⟩,
    ⟨5, some 15, .bin .mul .i64 (.t 11) (.t 14), none⟩,
    ⟨6, some 16, .move (.t 0), none⟩,
    ⟨7, some 17, .call 45 [.t 16, .k (.c (.int .i64 150))] [.c (.int .i64)], none⟩,
    ⟨8, some 18, .bin .add .i64 (.k (.c (.int .i64 1))) (.t 17), none⟩,
    ⟨9, some 19, .move (.t 0), none⟩,
    ⟨10, some 20, .call 45 [.t 19, .k (.c (.int .i64 30))] [.c (.int .i64)], none⟩,
    ⟨11, some 21, .bin .add .i64 (.k (.c (.int .i64 1))) (.t 20), none⟩,
    ⟨12, some 22, .move (.t 0), none⟩,
    ⟨13, some 23, .call 45 [.t 22, .k (.c (.int .i64 200))] [.c (.int .i64)], none⟩,
    ⟨14, some 24, .move (.t 0), none⟩,
    ⟨15, some 25, .call 45 [.t 24, .k (.c (.int .i64 20))] [.c (.int .i64)], none⟩,
    ⟨16, some 26, .bin .add .i64 (.k (.c (.int .i64 1))) (.t 25), none⟩,
    ⟨17, some 27, .build [.int .i64 0, .int .i64 0, .int .i64 0, .int .i64 0, .int .i64 0, .int .i64 0] [(0, 1, .t 10), (1, 1, .t 15), (2, 1, .t 18), (3, 1, .t 21), (5, 1, .t 23), (4, 1, .t 26)], none⟩,
    ⟨18, some 6, .boxz 32 [29] [.int .i64 0, .int .i64 0, .int .i64 0, .int .i64 0, .int .i64 0, .int .i64 0], none⟩,
    ⟨19, none, .stL 6 32 (.t 27) 6, none⟩]) (.seq (.seq (.region [⟨0, some 28, .move (.t 1), none⟩]) (.cond (.t 28) (.region [⟨0, some 29, .faddr 6 4, none⟩,
    ⟨1, none, .stL 29 32 (.k (.c (.int .i64 5000))) 1, none⟩]) .skip)) (.cut [4, 6, 31, 32] hodmanplay_Picks_Raw.c10))))) }
def hodmanplay_Picks_Raw.J10 (M : Mach) (C : Call) (x31_0 : Int) (x31_1 : Int) (x31_2 : Int) (x31_3 : Int) (x31_4 : Int) (x31_5 : Int) (r32_0 : Int) (r32_1 : Int) (r32_2 : Int) (r32_3 : Int) (r32_4 : Int) (r32_5 : Int) (G : GH) : Option Res := M.j (execC M.j C (M.ag C) hodmanplay_Picks_Raw.c10 ({ exits := [], ret := retK hodmanplay_Picks_Raw.d } : Env) (retK hodmanplay_Picks_Raw.d)) [.und, .und, .und, .und, .ref 31 0, .und, .ref 32 0, .und, .und, .und, .und, .und, .und, .und, .und, .und, .und, .und, .und, .und, .und, .und, .und, .und, .und, .und, .und, .und, .und, .und, .und, .box [.int .i64 x31_0, .int .i64 x31_1, .int .i64 x31_2, .int .i64 x31_3, .int .i64 x31_4, .int .i64 x31_5], .box [.int .i64 r32_0, .int .i64 r32_1, .int .i64 r32_2, .int .i64 r32_3, .int .i64 r32_4, .int .i64 r32_5]] G
theorem hodmanplay_Picks_Raw.J10_eq (M : Mach) (C : Call) (x31_0 : Int) (x31_1 : Int) (x31_2 : Int) (x31_3 : Int) (x31_4 : Int) (x31_5 : Int) (r32_0 : Int) (r32_1 : Int) (r32_2 : Int) (r32_3 : Int) (r32_4 : Int) (r32_5 : Int) (G : GH) : hodmanplay_Picks_Raw.J10 M C x31_0 x31_1 x31_2 x31_3 x31_4 x31_5 r32_0 r32_1 r32_2 r32_3 r32_4 r32_5 G = (some ([.agg [.int .i64 r32_0, .int .i64 r32_1, .int .i64 r32_2, .int .i64 r32_3, .int .i64 r32_4, .int .i64 r32_5]], G)) := (M.hj _ _ _).trans (by kernel_rfl)
def hodmanplay_Picks_Raw.f (M : Mach) (C : Call) (p0i : Nat) (p0o : Nat) (budget1 : Bool) (G : GH) : Option Res := (C hodmanplay_Picks_Num.id [.c (.ptr p0i p0o), .c (.int .i64 9)] G).bind fun qr_1 => (((qr_1.1[0]?).bind V1.c?).bind (Cell.asI .i64)).bind fun qx_2 => (C hodmanplay_Picks_Num.id [.c (.ptr p0i p0o), .c (.int .i64 12)] qr_1.2).bind fun qr_3 => (((qr_3.1[0]?).bind V1.c?).bind (Cell.asI .i64)).bind fun qx_4 => (C hodmanplay_Picks_Num.id [.c (.ptr p0i p0o), .c (.int .i64 150)] qr_3.2).bind fun qr_5 => (((qr_5.1[0]?).bind V1.c?).bind (Cell.asI .i64)).bind fun qx_6 => (C hodmanplay_Picks_Num.id [.c (.ptr p0i p0o), .c (.int .i64 30)] qr_5.2).bind fun qr_7 => (((qr_7.1[0]?).bind V1.c?).bind (Cell.asI .i64)).bind fun qx_8 => (C hodmanplay_Picks_Num.id [.c (.ptr p0i p0o), .c (.int .i64 200)] qr_7.2).bind fun qr_9 => (((qr_9.1[0]?).bind V1.c?).bind (Cell.asI .i64)).bind fun qx_10 => (C hodmanplay_Picks_Num.id [.c (.ptr p0i p0o), .c (.int .i64 20)] qr_9.2).bind fun qr_11 => (((qr_11.1[0]?).bind V1.c?).bind (Cell.asI .i64)).bind fun qx_12 => bif budget1 then hodmanplay_Picks_Raw.J10 M C 0 0 0 0 0 0 (IntKind.i64.wrap (1 + qx_2)) (IntKind.i64.wrap ((IntKind.i64.wrap (1 + qx_2)) * (IntKind.i64.wrap (1 + qx_4)))) (IntKind.i64.wrap (1 + qx_6)) (IntKind.i64.wrap (1 + qx_8)) 5000 qx_10 qr_11.2 else hodmanplay_Picks_Raw.J10 M C 0 0 0 0 0 0 (IntKind.i64.wrap (1 + qx_2)) (IntKind.i64.wrap ((IntKind.i64.wrap (1 + qx_2)) * (IntKind.i64.wrap (1 + qx_4)))) (IntKind.i64.wrap (1 + qx_6)) (IntKind.i64.wrap (1 + qx_8)) (IntKind.i64.wrap (1 + qx_12)) qx_10 qr_11.2
theorem hodmanplay_Picks_Raw.eq (M : Mach) (C : Call) (p0i : Nat) (p0o : Nat) (budget1 : Bool) (G : GH) : runF M C hodmanplay_Picks_Raw.d [.c (.ptr p0i p0o), .c (.bool budget1)] G = hodmanplay_Picks_Raw.f M C p0i p0o budget1 G := by kernel_rfl

/- 45 (*hodman/hodmanplay.Picks).Num -/
def hodmanplay_Picks_Num.c6 : DCode := (.cond (.t 18) (.seq (.region [⟨0, some 4, .move (.k (.c (.int .i64 0))), none⟩]) .ret) .skip)
def hodmanplay_Picks_Num.c12 : DCode := (.seq (.region [⟨0, some 19, .move (.t 0), none⟩,
    ⟨1, some 20, .nilck (.t 19), none⟩,
    ⟨2, some 21, .faddr 20 1, none⟩,
    ⟨3, some 22, .ldG 21 (.c (.int .i64)), none⟩,
    ⟨4, some 23, .bin .add .i64 (.t 22) (.k (.c (.int .i64 1))), none⟩,
    ⟨5, some 24, .nilck (.t 19), none⟩,
    ⟨6, some 25, .faddr 24 1, none⟩,
    ⟨7, none, .stG 25 (.t 23) 1, none⟩]) (.seq (.region [⟨0, some 26, .move (.t 0), none⟩,
    ⟨1, some 27, .nilck (.t 26), none⟩,
    ⟨2, some 28, .faddr 27 0, none⟩,
    ⟨3, some 29, .ldG 28 (.c (.sl 1)), none⟩,
    ⟨4, some 30, .move (.t 0), none⟩,
    ⟨5, some 31, .nilck (.t 30), none⟩,
    ⟨6, some 32, .faddr 31 1, none⟩,
    ⟨7, some 33, .ldG 32 (.c (.int .i64)), none⟩,
    ⟨8, some 34, .bin .sub .i64 (.t 33) (.k (.c (.int .i64 1))), none⟩,
    ⟨9, some 35, .iaddr (.t 29) (.t 34) 1, none⟩,
    ⟨10, some 36, .ldG 35 (.c (.int .u8)), none⟩,
    ⟨11, some 37, .conv .i64 (.t 36), none⟩,
    ⟨12, some 38, .move (.t 1), none⟩,
    ⟨13, some 39, .bin .rem .i64 (.t 37) (.t 38), none⟩,
    ⟨14, some 4, .move (.t 39), none⟩]) .ret))
def hodmanplay_Picks_Num.d : DFn := { ntmps := 40, res := [.t 4], body := (.seq (.region [⟨0, some 4, .move (.k (.c (.int .i64 0))), none⟩]) (.seq (.seq (.region [⟨0, some 5, .move (.t 0), none⟩,
    ⟨1, some 6, .nilck (.t 5), none⟩,
    ⟨2, some 7, .faddr 6 1, none⟩,
    ⟨3, some 8, .ldG 7 (.c (.int .i64)), none⟩,
    ⟨4, some 9, .move (.t 0), none⟩,
    ⟨5, some 10, .nilck (.t 9), none⟩,
    ⟨6, some 11, .faddr 10 0, none⟩,
    ⟨7, some 12, .ldG 11 (.c (.sl 1)), none⟩,
    ⟨8, some 13, .len (.t 12), none⟩,
    ⟨9, some 14, .cmp .geq .i64 (.t 8) (.t 13), none⟩,
    ⟨10, some 15, .move (.t 14), none⟩,
    ⟨11, some 16, .move (.t 1), some (15, false)⟩,
    ⟨12, some 17, .cmp .lss .i64 (.t 16) (.k (.c (.int .i64 1))), some (15, false)⟩,
    ⟨13, some 18, .pick (.t 15) (.k (.c (.bool true))) (.t 17), none⟩]) (.cut [0, 1, 18] hodmanplay_Picks_Num.c6)) hodmanplay_Picks_Num.c12)) }
def hodmanplay_Picks_Num.k12 (M : Mach) (C : Call) : Kont := execC M.j C (M.ag C) hodmanplay_Picks_Num.c12 ({ exits := [], ret := retK hodmanplay_Picks_Num.d } : Env) (retK hodmanplay_Picks_Num.d)
def hodmanplay_Picks_Num.J6 (M : Mach) (C : Call) (p0i : Nat) (p0o : Nat) (m1 : Int) (t18 : Bool) (G : GH) : Option Res := M.j (execC M.j C (M.ag C) hodmanplay_Picks_Num.c6 ({ exits := [], ret := retK hodmanplay_Picks_Num.d } : Env) (hodmanplay_Picks_Num.k12 M C)) [.v (.c (.ptr p0i p0o)), .v (.c (.int .i64 m1)), .und, .und, .und, .und, .und, .und, .und, .und, .und, .und, .und, .und, .und, .und, .und, .und, .v (.c (.bool t18)), .und, .und, .und, .und, .und, .und, .und, .und, .und, .und, .und, .und, .und, .und, .und, .und, .und, .und, .und, .und, .und] G
theorem hodmanplay_Picks_Num.J6_eq (M : Mach) (C : Call) (p0i : Nat) (p0o : Nat) (m1 : Int) (t18 : Bool) (G : GH) : hodmanplay_Picks_Num.J6 M C p0i p0o m1 t18 G = (bif t18 then some ([.c (.int .i64 0)], G) else guardK (!Nat.beq p0i 0) (((G.ld p0i (p0o + 1)).bind (Cell.asI .i64)).bind fun qx_3 => guardK (!Nat.beq p0i 0) ((G.sts p0i (p0o + 1) [.int .i64 (IntKind.i64.wrap (qx_3 + 1))]).bind fun qG_4 => guardK (!Nat.beq p0i 0) (((qG_4.ld p0i (p0o + 0)).bind (Cell.asS 1)).bind fun qs_5 => guardK (!Nat.beq p0i 0) (((qG_4.ld p0i (p0o + 1)).bind (Cell.asI .i64)).bind fun qx_6 => guardK (decide (0 ≤ IntKind.i64.wrap (qx_6 - 1) ∧ IntKind.i64.wrap (qx_6 - 1) < ((qs_5.2.2 : Nat) : Int))) (((qG_4.ld qs_5.1 (qs_5.2.1 + Int.toNat (IntKind.i64.wrap (qx_6 - 1)) * 1)).bind (Cell.asI .u8)).bind fun qx_7 => (binD .rem .i64 (IntKind.i64.wrap qx_7) m1).bind fun qx_8 => some ([.c (.int .i64 qx_8)], qG_4))))))) := (M.hj _ _ _).trans (by kernel_rfl)
def hodmanplay_Picks_Num.f (M : Mach) (C : Call) (p0i : Nat) (p0o : Nat) (m1 : Int) (G : GH) : Option Res := guardK (!Nat.beq p0i 0) (((G.ld p0i (p0o + 1)).bind (Cell.asI .i64)).bind fun qx_1 => guardK (!Nat.beq p0i 0) (((G.ld p0i (p0o + 0)).bind (Cell.asS 1)).bind fun qs_2 => bif decide (qx_1 ≥ ((qs_2.2.2 : Nat) : Int)) then hodmanplay_Picks_Num.J6 M C p0i p0o m1 true G else hodmanplay_Picks_Num.J6 M C p0i p0o m1 (decide (m1 < 1)) G))
theorem hodmanplay_Picks_Num.eq (M : Mach) (C : Call) (p0i : Nat) (p0o : Nat) (m1 : Int) (G : GH) : runF M C hodmanplay_Picks_Num.d [.c (.ptr p0i p0o), .c (.int .i64 m1)] G = hodmanplay_Picks_Num.f M C p0i p0o m1 G := by kernel_rfl

/- 46 hodman/conf.within -/
def conf_within.c12 : DCode := (.cond (.t 16) (.seq (.region [⟨0, some 2, .move (.k (.c (.bool false))), none⟩]) .ret) .skip)
def conf_within.c16 : DCode := (.region [⟨0, some 17, .bin .add .i64 (.t 7) (.k (.c (.int .i64 1))), none⟩,
    ⟨1, some 7, .move (.t 17), none⟩])
def conf_within.c19 : DCode := (.seq (.region [⟨0, some 8, .cmp .lss .i64 (.t 7) (.t 6), none⟩]) (.seq (.cond (.t 8) .skip (.exit 0)) (.seq (.block 1 (.seq (.region [⟨0, some 9, .iaddr (.t 5) (.t 7) 1, none⟩,
    ⟨1, some 10, .ldG 9 (.c (.int .i64)), none⟩,
    ⟨2, some 4, .move (.t 10), none⟩]) (.seq (.region [⟨0, some 11, .move (.t 4), none⟩,
    ⟨1, some 12, .cmp .lss .i64 (.t 11) (.k (.c (.int .i64 1))), none⟩,
    ⟨2, some 13, .move (.t 12), none⟩,
    ⟨3, some 14, .move (.t 4), some (13, false)⟩,
    ⟨4, some 15, .cmp .gtr .i64 (.t 14) (.k (.c (.int .i64 65536))), some (13, false)⟩,
    ⟨5, some 16, .pick (.t 13) (.k (.c (.bool true))) (.t 15), none⟩]) (.cut [5, 6, 7, 16] conf_within.c12)))) conf_within.c16)))
def conf_within.c20 : DCode := (.loop [5, 6, 7] conf_within.c19)
def conf_within.c25 : DCode := (.seq (.region [⟨0, some 2, .move (.k (.c (.bool true))), none⟩]) .ret)
def conf_within.d : DFn := { ntmps := 18, res := [.t 2], body := (.seq (.region [⟨0, some 2, .move (.k (.c (.bool false))), none⟩]) (.seq (.seq (.region [⟨0, some 5, .move (.t 0), none⟩,
    ⟨1, some 6, .len (.t 5), none⟩,
    ⟨2, some 7, .move (.k (.c (.int .i64 0))), none⟩]) (.block 0 conf_within.c20)) conf_within.c25)) }
def conf_within.k25 (M : Mach) (C : Call) : Kont := execC M.j C (M.ag C) conf_within.c25 ({ exits := [], ret := retK conf_within.d } : Env) (retK conf_within.d)
def conf_within.e21 (M : Mach) (C : Call) : Env := { exits := (0, (conf_within.k25 M C)) :: (({ exits := [], ret := retK conf_within.d } : Env)).exits, ret := (({ exits := [], ret := retK conf_within.d } : Env)).ret }
def conf_within.L20 (M : Mach) (C : Call) (t5i : Nat) (t5o : Nat) (t5n : Nat) (t6 : Int) (t7 : Int) (G : GH) : Option Res := M.ag C [5, 6, 7] conf_within.c19 (conf_within.e21 M C) (conf_within.k25 M C) [.und, .und, .und, .und, .und, .v (.c (.sl 1 t5i t5o t5n)), .v (.c (.int .i64 t6)), .v (.c (.int .i64 t7)), .und, .und, .und, .und, .und, .und, .und, .und, .und, .und] G
def conf_within.k20 (M : Mach) (C : Call) : Kont := fun tm G => M.ag C [5, 6, 7] conf_within.c19 (conf_within.e21 M C) (conf_within.k25 M C) (restr [5, 6, 7] 0 tm) G
def conf_within.k16 (M : Mach) (C : Call) : Kont := execC M.j C (M.ag C) conf_within.c16 (conf_within.e21 M C) (conf_within.k20 M C)
def conf_within.e15 (M : Mach) (C : Call) : Env := { exits := (1, (conf_within.k16 M C)) :: ((conf_within.e21 M C)).exits, ret := ((conf_within.e21 M C)).ret }
def conf_within.J12 (M : Mach) (C : Call) (t5i : Nat) (t5o : Nat) (t5n : Nat) (t6 : Int) (t7 : Int) (t16 : Bool) (G : GH) : Option Res := M.j (execC M.j C (M.ag C) conf_within.c12 (conf_within.e15 M C) (conf_within.k16 M C)) [.und, .und, .und, .und, .und, .v (.c (.sl 1 t5i t5o t5n)), .v (.c (.int .i64 t6)), .v (.c (.int .i64 t7)), .und, .und, .und, .und, .und, .und, .und, .und, .v (.c (.bool t16)), .und] G
theorem conf_within.L20_eq (M : Mach) (C : Call) (t5i : Nat) (t5o : Nat) (t5n : Nat) (t6 : Int) (t7 : Int) (G : GH) : conf_within.L20 M C t5i t5o t5n t6 t7 G = (bif decide (t7 < t6) then guardK (decide (0 ≤ t7 ∧ t7 < ((t5n : Nat) : Int))) (((G.ld t5i (t5o + Int.toNat t7 * 1)).bind (Cell.asI .i64)).bind fun qx_1 => bif decide (qx_1 < 1) then conf_within.J12 M C t5i t5o t5n t6 t7 true G else conf_within.J12 M C t5i t5o t5n t6 t7 (decide (qx_1 > 65536)) G) else some ([.c (.bool true)], G)) := (M.hs _ _ _ _ _ _ _).trans (by kernel_rfl)
theorem conf_within.J12_eq (M : Mach) (C : Call) (t5i : Nat) (t5o : Nat) (t5n : Nat) (t6 : Int) (t7 : Int) (t16 : Bool) (G : GH) : conf_within.J12 M C t5i t5o t5n t6 t7 t16 G = (bif t16 then some ([.c (.bool false)], G) else conf_within.L20 M C t5i t5o t5n t6 (IntKind.i64.wrap (t7 + 1)) G) := (M.hj _ _ _).trans (by kernel_rfl)
def conf_within.f (M : Mach) (C : Call) (l0i : Nat) (l0o : Nat) (l0n : Nat) (G : GH) : Option Res := conf_within.L20 M C l0i l0o l0n ((l0n : Nat) : Int) 0 G
theorem conf_within.eq (M : Mach) (C : Call) (l0i : Nat) (l0o : Nat) (l0n : Nat) (G : GH) : runF M C conf_within.d [.c (.sl 1 l0i l0o l0n)] G = conf_within.f M C l0i l0o l0n G := by kernel_rfl

/- 22 hodman/hodmanref1.Shift -/
def hodmanref1_Shift.c17 : DCode := (.seq (.seq (.region [⟨0, some 7, .move (.t 6), none⟩,
    ⟨1, some 8, .faddr 2 3, none⟩,
    ⟨2, some 9, .ldL 8 19 (.c (.int .i64)), none⟩,
    ⟨3, some 10, .cmp .leq .i64 (.t 7) (.t 9), none⟩]) (.cond (.t 10) .skip (.exit 0))) (.seq (.block 1 (.seq (.region [⟨0, some 13, .ldL 2 19 (.agg [.int .i64, .int .i64, .int .i64, .int .i64, .int .i64, .int .i64, .int .i64, .int .i64]), none⟩,
    ⟨1, some 14, .move (.t 6), none⟩,
    ⟨2, some 15, .call 43 [.t 13, .t 14] [.c (.int .i64)], none⟩,
    ⟨3, some 16, .move (.t 1), none⟩,
    ⟨4, some 17, .cmp .eql .i64 (.t 15) (.t 16), none⟩]) (.cond (.t 17) (.seq (.region [⟨0, some 18, .move (.t 6), none⟩,
    ⟨1, some 4, .move (.t 18), none⟩,
    ⟨2, some 5, .move (.k (.c (.bool true))), none⟩]) .ret) .skip))) (.region [⟨0, some 11, .move (.t 6), none⟩,
    ⟨1, some 12, .bin .add .i64 (.t 11) (.k (.c (.int .i64 1))), none⟩,
    ⟨2, some 6, .move (.t 12), none⟩])))
def hodmanref1_Shift.c23 : DCode := (.seq (.region [⟨0, some 4, .move (.k (.c (.int .i64 0))), none⟩,
    ⟨1, some 5, .move (.k (.c (.bool false))), none⟩]) .ret)
def hodmanref1_Shift.d : DFn := { ntmps := 20, res := [.t 4, .t 5], body := (.seq (.region [⟨0, some 2, .boxv 19 [8] (.t 0) 8, none⟩,
    ⟨1, some 4, .move (.k (.c (.int .i64 0))), none⟩,
    ⟨2, some 5, .move (.k (.c (.bool false))), none⟩]) (.seq (.seq (.region [⟨0, some 6, .move (.k (.c (.int .i64 0))), none⟩]) (.block 0 (.loop [1, 2, 6, 19] hodmanref1_Shift.c17))) hodmanref1_Shift.c23)) }
def hodmanref1_Shift.k23 (M : Mach) (C : Call) : Kont := execC M.j C (M.ag C) hodmanref1_Shift.c23 ({ exits := [], ret := retK hodmanref1_Shift.d } : Env) (retK hodmanref1_Shift.d)
def hodmanref1_Shift.e19 (M : Mach) (C : Call) : Env := { exits := (0, (hodmanref1_Shift.k23 M C)) :: (({ exits := [], ret := retK hodmanref1_Shift.d } : Env)).exits, ret := (({ exits := [], ret := retK hodmanref1_Shift.d } : Env)).ret }
def hodmanref1_Shift.L18 (M : Mach) (C : Call) (charge1 : Int) (k6 : Int) (c19_0 : Int) (c19_1 : Int) (c19_2 : Int) (c19_3 : Int) (c19_4 : Int) (c19_5 : Int) (c19_6 : Int) (c19_7 : Int) (G : GH) : Option Res := M.ag C [1, 2, 6, 19] hodmanref1_Shift.c17 (hodmanref1_Shift.e19 M C) (hodmanref1_Shift.k23 M C) [.und, .v (.c (.int .i64 charge1)), .ref 19 0, .und, .und, .und, .v (.c (.int .i64 k6)), .und, .und, .und, .und, .und, .und, .und, .und, .und, .und, .und, .und, .box [.int .i64 c19_0, .int .i64 c19_1, .int .i64 c19_2, .int .i64 c19_3, .int .i64 c19_4, .int .i64 c19_5, .int .i64 c19_6, .int .i64 c19_7]] G
theorem hodmanref1_Shift.L18_eq (M : Mach) (C : Call) (charge1 : Int) (k6 : Int) (c19_0 : Int) (c19_1 : Int) (c19_2 : Int) (c19_3 : Int) (c19_4 : Int) (c19_5 : Int) (c19_6 : Int) (c19_7 : Int) (G : GH) : hodmanref1_Shift.L18 M C charge1 k6 c19_0 c19_1 c19_2 c19_3 c19_4 c19_5 c19_6 c19_7 G = (bif decide (k6 ≤ c19_3) then (C hodmanref1_Size.id [.agg [.int .i64 c19_0, .int .i64 c19_1, .int .i64 c19_2, .int .i64 c19_3, .int .i64 c19_4, .int .i64 c19_5, .int .i64 c19_6, .int .i64 c19_7], .c (.int .i64 k6)] G).bind fun qr_1 => (((qr_1.1[0]?).bind V1.c?).bind (Cell.asI .i64)).bind fun qx_2 => bif decide (qx_2 = charge1) then some ([.c (.int .i64 k6), .c (.bool true)], qr_1.2) else hodmanref1_Shift.L18 M C charge1 (IntKind.i64.wrap (k6 + 1)) c19_0 c19_1 c19_2 c19_3 c19_4 c19_5 c19_6 c19_7 qr_1.2 else some ([.c (.int .i64 0), .c (.bool false)], G)) := (M.hs _ _ _ _ _ _ _).trans (by kernel_rfl)
def hodmanref1_Shift.f (M : Mach) (C : Call) (c0_0 : Int) (c0_1 : Int) (c0_2 : Int) (c0_3 : Int) (c0_4 : Int) (c0_5 : Int) (c0_6 : Int) (c0_7 : Int) (charge1 : Int) (G : GH) : Option Res := hodmanref1_Shift.L18 M C charge1 0 c0_0 c0_1 c0_2 c0_3 c0_4 c0_5 c0_6 c0_7 G
theorem hodmanref1_Shift.eq (M : Mach) (C : Call) (c0_0 : Int) (c0_1 : Int) (c0_2 : Int) (c0_3 : Int) (c0_4 : Int) (c0_5 : Int) (c0_6 : Int) (c0_7 : Int) (charge1 : Int) (G : GH) : runF M C hodmanref1_Shift.d [.agg [.int .i64 c0_0, .int .i64 c0_1, .int .i64 c0_2, .int .i64 c0_3, .int .i64 c0_4, .int .i64 c0_5, .int .i64 c0_6, .int .i64 c0_7], .c (.int .i64 charge1)] G = hodmanref1_Shift.f M C c0_0 c0_1 c0_2 c0_3 c0_4 c0_5 c0_6 c0_7 charge1 G := by kernel_rfl

/- 37 hodman/calc.Log -/
def calc_Log.c6 : DCode := (.cond (.t 12) (.seq (.region [⟨0, some 2, .move (.k (.c (.int .i64 0))), none⟩,
    ⟨1, some 3, .move (.k (.c (.bool false))), none⟩]) .ret) .skip)
def calc_Log.c17 : DCode := (.seq (.seq (.region [⟨0, some 13, .move (.t 0), none⟩,
    ⟨1, some 14, .cmp .gtr .i64 (.t 13) (.k (.c (.int .i64 1))), none⟩]) (.cond (.t 14) .skip (.exit 0))) (.block 1 (.seq (.region [⟨0, some 15, .move (.t 0), none⟩,
    ⟨1, some 16, .bin .shr .i64 (.t 15) (.k (.c (.int .u64 1))), none⟩,
    ⟨2, some 0, .move (.t 16), none⟩]) (.region [⟨0, some 17, .move (.t 2), none⟩,
    ⟨1, some 18, .bin .add .i64 (.t 17) (.k (.c (.int .i64 1))), none⟩,
    ⟨2, some 2, .move (.t 18), none⟩]))))
def calc_Log.c22 : DCode := (.seq (.region [⟨0, some 19, .move (.t 2), none⟩,
    ⟨1, some 2, .move (.t 19), none⟩,
    ⟨2, some 3, .move (.k (.c (.bool true))), none⟩]) .ret)
def calc_Log.c23 : DCode := (.seq (.block 0 (.loop [0, 2] calc_Log.c17)) calc_Log.c22)
def calc_Log.d : DFn := { ntmps := 20, res := [.t 2, .t 3], body := (.seq (.region [⟨0, some 2, .move (.k (.c (.int .i64 0))), none⟩,
    ⟨1, some 3, .move (.k (.c (.bool false))), none⟩]) (.seq (.seq (.region [⟨0, some 4, .move (.t 0), none⟩,
    ⟨1, some 5, .cmp .lss .i64 (.t 4) (.k (.c (.int .i64 1))), none⟩,
    ⟨2, some 6, .move (.t 5), none⟩,
    ⟨3, some 7, .move (.t 0), some (6, false)⟩,
    ⟨4, some 8, .move (.t 0), some (6, false)⟩,
    ⟨5, some 9, .bin .sub .i64 (.t 8) (.k (.c (.int .i64 1))), some (6, false)⟩,
    ⟨6, some 10, .bin .and .i64 (.t 7) (.t 9), some (6, false)⟩,
    ⟨7, some 11, .cmp .neq .i64 (.t 10) (.k (.c (.int .i64 0))), some (6, false)⟩,
    ⟨8, some 12, .pick (.t 6) (.k (.c (.bool true))) (.t 11), none⟩]) (.cut [0, 2, 12] calc_Log.c6)) calc_Log.c23)) }
def calc_Log.k23 (M : Mach) (C : Call) : Kont := execC M.j C (M.ag C) calc_Log.c23 ({ exits := [], ret := retK calc_Log.d } : Env) (retK calc_Log.d)
def calc_Log.J6 (M : Mach) (C : Call) (v0 : Int) (n2 : Int) (t12 : Bool) (G : GH) : Option Res := M.j (execC M.j C (M.ag C) calc_Log.c6 ({ exits := [], ret := retK calc_Log.d } : Env) (calc_Log.k23 M C)) [.v (.c (.int .i64 v0)), .und, .v (.c (.int .i64 n2)), .und, .und, .und, .und, .und, .und, .und, .und, .und, .v (.c (.bool t12)), .und, .und, .und, .und, .und, .und, .und] G
def calc_Log.k22 (M : Mach) (C : Call) : Kont := execC M.j C (M.ag C) calc_Log.c22 ({ exits := [], ret := retK calc_Log.d } : Env) (retK calc_Log.d)
def calc_Log.e19 (M : Mach) (C : Call) : Env := { exits := (0, (calc_Log.k22 M C)) :: (({ exits := [], ret := retK calc_Log.d } : Env)).exits, ret := (({ exits := [], ret := retK calc_Log.d } : Env)).ret }
def calc_Log.L18 (M : Mach) (C : Call) (v0 : Int) (n2 : Int) (G : GH) : Option Res := M.ag C [0, 2] calc_Log.c17 (calc_Log.e19 M C) (calc_Log.k22 M C) [.v (.c (.int .i64 v0)), .und, .v (.c (.int .i64 n2)), .und, .und, .und, .und, .und, .und, .und, .und, .und, .und, .und, .und, .und, .und, .und, .und, .und] G
theorem calc_Log.J6_eq (M : Mach) (C : Call) (v0 : Int) (n2 : Int) (t12 : Bool) (G : GH) : calc_Log.J6 M C v0 n2 t12 G = (bif t12 then some ([.c (.int .i64 0), .c (.bool false)], G) else calc_Log.L18 M C v0 n2 G) := (M.hj _ _ _).trans (by kernel_rfl)
theorem calc_Log.L18_eq (M : Mach) (C : Call) (v0 : Int) (n2 : Int) (G : GH) : calc_Log.L18 M C v0 n2 G = (bif decide (v0 > 1) then calc_Log.L18 M C (Int.fdiv v0 (2 ^ (min (1 : Int).toNat IntKind.i64.bits))) (IntKind.i64.wrap (n2 + 1)) G else some ([.c (.int .i64 n2), .c (.bool true)], G)) := (M.hs _ _ _ _ _ _ _).trans (by kernel_rfl)
def calc_Log.f (M : Mach) (C : Call) (v0 : Int) (G : GH) : Option Res := bif decide (v0 < 1) then calc_Log.J6 M C v0 0 true G else calc_Log.J6 M C v0 0 (!decide (IntKind.i64.wrap (((BitVec.ofInt IntKind.i64.bits v0) &&& (BitVec.ofInt IntKind.i64.bits (IntKind.i64.wrap (v0 - 1)))).toNat : Int) = 0)) G
theorem calc_Log.eq (M : Mach) (C : Call) (v0 : Int) (G : GH) : runF M C calc_Log.d [.c (.int .i64 v0)] G = calc_Log.f M C v0 G := by kernel_rfl

/- 39 hodman/hodmanref1.Log -/
def hodmanref1_Log.c22 : DCode := (.region [⟨0, some 8, .move (.t 5), none⟩,
    ⟨1, some 9, .bin .add .i64 (.t 8) (.k (.c (.int .i64 1))), none⟩,
    ⟨2, some 5, .move (.t 9), none⟩])
def hodmanref1_Log.c24 : DCode := (.seq (.seq (.region [⟨0, some 6, .move (.t 5), none⟩,
    ⟨1, some 7, .cmp .lss .i64 (.t 6) (.k (.c (.int .i64 63))), none⟩]) (.cond (.t 7) .skip (.exit 0))) (.seq (.block 1 (.seq (.seq (.region [⟨0, some 10, .move (.t 4), none⟩,
    ⟨1, some 11, .move (.t 0), none⟩,
    ⟨2, some 12, .cmp .eql .i64 (.t 10) (.t 11), none⟩]) (.cond (.t 12) (.seq (.region [⟨0, some 13, .move (.t 5), none⟩,
    ⟨1, some 2, .move (.t 13), none⟩,
    ⟨2, some 3, .move (.k (.c (.bool true))), none⟩]) .ret) .skip)) (.seq (.region [⟨0, some 14, .move (.t 5), none⟩,
    ⟨1, some 15, .cmp .lss .i64 (.t 14) (.k (.c (.int .i64 62))), none⟩]) (.cond (.t 15) (.region [⟨0, some 16, .move (.t 4), none⟩,
    ⟨1, some 17, .bin .mul .i64 (.t 16) (.k (.c (.int .i64 2))), none⟩,
    ⟨2, some 4, .move (.t 17), none⟩]) .skip)))) (.cut [0, 4, 5] hodmanref1_Log.c22)))
def hodmanref1_Log.c25 : DCode := (.loop [0, 4, 5] hodmanref1_Log.c24)
def hodmanref1_Log.c30 : DCode := (.seq (.region [⟨0, some 2, .move (.k (.c (.int .i64 0))), none⟩,
    ⟨1, some 3, .move (.k (.c (.bool false))), none⟩]) .ret)
def hodmanref1_Log.d : DFn := { ntmps := 18, res := [.t 2, .t 3], body := (.seq (.region [⟨0, some 2, .move (.k (.c (.int .i64 0))), none⟩,
    ⟨1, some 3, .move (.k (.c (.bool false))), none⟩]) (.seq (.region [⟨0, some 4, .move (.k (.c (.int .i64 1))), none⟩]) (.seq (.seq (.region [⟨0, some 5, .move (.k (.c (.int .i64 0))), none⟩]) (.block 0 hodmanref1_Log.c25)) hodmanref1_Log.c30))) }
def hodmanref1_Log.k30 (M : Mach) (C : Call) : Kont := execC M.j C (M.ag C) hodmanref1_Log.c30 ({ exits := [], ret := retK hodmanref1_Log.d } : Env) (retK hodmanref1_Log.d)
def hodmanref1_Log.e26 (M : Mach) (C : Call) : Env := { exits := (0, (hodmanref1_Log.k30 M C)) :: (({ exits := [], ret := retK hodmanref1_Log.d } : Env)).exits, ret := (({ exits := [], ret := retK hodmanref1_Log.d } : Env)).ret }
def hodmanref1_Log.L25 (M : Mach) (C : Call) (v0 : Int) (p4 : Int) (n5 : Int) (G : GH) : Option Res := M.ag C [0, 4, 5] hodmanref1_Log.c24 (hodmanref1_Log.e26 M C) (hodmanref1_Log.k30 M C) [.v (.c (.int .i64 v0)), .und, .und, .und, .v (.c (.int .i64 p4)), .v (.c (.int .i64 n5)), .und, .und, .und, .und, .und, .und, .und, .und, .und, .und, .und, .und] G
def hodmanref1_Log.k25 (M : Mach) (C : Call) : Kont := fun tm G => M.ag C [0, 4, 5] hodmanref1_Log.c24 (hodmanref1_Log.e26 M C) (hodmanref1_Log.k30 M C) (restr [0, 4, 5] 0 tm) G
def hodmanref1_Log.J22 (M : Mach) (C : Call) (v0 : Int) (p4 : Int) (n5 : Int) (G : GH) : Option Res := M.j (execC M.j C (M.ag C) hodmanref1_Log.c22 (hodmanref1_Log.e26 M C) (hodmanref1_Log.k25 M C)) [.v (.c (.int .i64 v0)), .und, .und, .und, .v (.c (.int .i64 p4)), .v (.c (.int .i64 n5)), .und, .und, .und, .und, .und, .und, .und, .und, .und, .und, .und, .und] G
theorem hodmanref1_Log.L25_eq (M : Mach) (C : Call) (v0 : Int) (p4 : Int) (n5 : Int) (G : GH) : hodmanref1_Log.L25 M C v0 p4 n5 G = (bif decide (n5 < 63) then bif decide (p4 = v0) then some ([.c (.int .i64 n5), .c (.bool true)], G) else bif decide (n5 < 62) then hodmanref1_Log.J22 M C v0 (IntKind.i64.wrap (p4 * 2)) n5 G else hodmanref1_Log.J22 M C v0 p4 n5 G else some ([.c (.int .i64 0), .c (.bool false)], G)) := (M.hs _ _ _ _ _ _ _).trans (by kernel_rfl)
theorem hodmanref1_Log.J22_eq (M : Mach) (C : Call) (v0 : Int) (p4 : Int) (n5 : Int) (G : GH) : hodmanref1_Log.J22 M C v0 p4 n5 G = (hodmanref1_Log.L25 M C v0 p4 (IntKind.i64.wrap (n5 + 1)) G) := (M.hj _ _ _).trans (by kernel_rfl)
def hodmanref1_Log.f (M : Mach) (C : Call) (v0 : Int) (G : GH) : Option Res := hodmanref1_Log.L25 M C v0 1 0 G
theorem hodmanref1_Log.eq (M : Mach) (C : Call) (v0 : Int) (G : GH) : runF M C hodmanref1_Log.d [.c (.int .i64 v0)] G = hodmanref1_Log.f M C v0 G := by kernel_rfl

/- 40 hodman/hodmanref1.Up -/
def hodmanref1_Up.c6 : DCode := (.cond (.t 10) (.seq (.region [⟨0, some 2, .move (.k (.c (.int .i64 0))), none⟩,
    ⟨1, some 3, .move (.k (.c (.bool false))), none⟩]) .ret) .skip)
def hodmanref1_Up.c16 : DCode := (.seq (.seq (.region [⟨0, some 11, .move (.t 4), none⟩,
    ⟨1, some 12, .move (.t 0), none⟩,
    ⟨2, some 13, .cmp .lss .i64 (.t 11) (.t 12), none⟩]) (.cond (.t 13) .skip (.exit 0))) (.block 1 (.region [⟨0, some 14, .move (.t 4), none⟩,
    ⟨1, some 15, .bin .mul .i64 (.t 14) (.k (.c (.int .i64 2))), none⟩,
    ⟨2, some 4, .move (.t 15), none⟩])))
def hodmanref1_Up.c21 : DCode := (.seq (.region [⟨0, some 16, .move (.t 4), none⟩,
    ⟨1, some 2, .move (.t 16), none⟩,
    ⟨2, some 3, .move (.k (.c (.bool true))), none⟩]) .ret)
def hodmanref1_Up.c23 : DCode := (.seq (.region [⟨0, some 4, .move (.k (.c (.int .i64 1))), none⟩]) (.seq (.block 0 (.loop [0, 4] hodmanref1_Up.c16)) hodmanref1_Up.c21))
def hodmanref1_Up.d : DFn := { ntmps := 17, res := [.t 2, .t 3], body := (.seq (.region [⟨0, some 2, .move (.k (.c (.int .i64 0))), none⟩,
    ⟨1, some 3, .move (.k (.c (.bool false))), none⟩]) (.seq (.seq (.region [⟨0, some 5, .move (.t 0), none⟩,
    ⟨1, some 6, .cmp .lss .i64 (.t 5) (.k (.c (.int .i64 1))), none⟩,
    ⟨2, some 7, .move (.t 6), none⟩,
    ⟨3, some 8, .move (.t 0), some (7, false)⟩,
    ⟨4, some 9, .cmp .gtr .i64 (.t 8) (.k (.c (.int .i64 4611686018427387904))), some (7, false)⟩,
    ⟨5, some 10, .pick (.t 7) (.k (.c (.bool true))) (.t 9), none⟩]) (.cut [0, 10] hodmanref1_Up.c6)) hodmanref1_Up.c23)) }
def hodmanref1_Up.k23 (M : Mach) (C : Call) : Kont := execC M.j C (M.ag C) hodmanref1_Up.c23 ({ exits := [], ret := retK hodmanref1_Up.d } : Env) (retK hodmanref1_Up.d)
def hodmanref1_Up.J6 (M : Mach) (C : Call) (v0 : Int) (t10 : Bool) (G : GH) : Option Res := M.j (execC M.j C (M.ag C) hodmanref1_Up.c6 ({ exits := [], ret := retK hodmanref1_Up.d } : Env) (hodmanref1_Up.k23 M C)) [.v (.c (.int .i64 v0)), .und, .und, .und, .und, .und, .und, .und, .und, .und, .v (.c (.bool t10)), .und, .und, .und, .und, .und, .und] G
def hodmanref1_Up.k21 (M : Mach) (C : Call) : Kont := execC M.j C (M.ag C) hodmanref1_Up.c21 ({ exits := [], ret := retK hodmanref1_Up.d } : Env) (retK hodmanref1_Up.d)
def hodmanref1_Up.e18 (M : Mach) (C : Call) : Env := { exits := (0, (hodmanref1_Up.k21 M C)) :: (({ exits := [], ret := retK hodmanref1_Up.d } : Env)).exits, ret := (({ exits := [], ret := retK hodmanref1_Up.d } : Env)).ret }
def hodmanref1_Up.L17 (M : Mach) (C : Call) (v0 : Int) (p4 : Int) (G : GH) : Option Res := M.ag C [0, 4] hodmanref1_Up.c16 (hodmanref1_Up.e18 M C) (hodmanref1_Up.k21 M C) [.v (.c (.int .i64 v0)), .und, .und, .und, .v (.c (.int .i64 p4)), .und, .und, .und, .und, .und, .und, .und, .und, .und, .und, .und, .und] G
theorem hodmanref1_Up.J6_eq (M : Mach) (C : Call) (v0 : Int) (t10 : Bool) (G : GH) : hodmanref1_Up.J6 M C v0 t10 G = (bif t10 then some ([.c (.int .i64 0), .c (.bool false)], G) else hodmanref1_Up.L17 M C v0 1 G) := (M.hj _ _ _).trans (by kernel_rfl)
theorem hodmanref1_Up.L17_eq (M : Mach) (C : Call) (v0 : Int) (p4 : Int) (G : GH) : hodmanref1_Up.L17 M C v0 p4 G = (bif decide (p4 < v0) then hodmanref1_Up.L17 M C v0 (IntKind.i64.wrap (p4 * 2)) G else some ([.c (.int .i64 p4), .c (.bool true)], G)) := (M.hs _ _ _ _ _ _ _).trans (by kernel_rfl)
def hodmanref1_Up.f (M : Mach) (C : Call) (v0 : Int) (G : GH) : Option Res := bif decide (v0 < 1) then hodmanref1_Up.J6 M C v0 true G else hodmanref1_Up.J6 M C v0 (decide (v0 > 4611686018427387904)) G
theorem hodmanref1_Up.eq (M : Mach) (C : Call) (v0 : Int) (G : GH) : runF M C hodmanref1_Up.d [.c (.int .i64 v0)] G = hodmanref1_Up.f M C v0 G := by kernel_rfl

/- 49 hodman/hodmanref1.Add -/
def hodmanref1_Add.c6 : DCode := (.cond (.t 23) (.seq (.region [⟨0, some 4, .move (.k (.c (.int .i64 0))), none⟩,
    ⟨1, some 5, .move (.k (.c (.bool false))), none⟩]) .ret) .skip)
def hodmanref1_Add.c10 : DCode := (.seq (.region [⟨0, some 24, .move (.t 0), none⟩,
    ⟨1, some 25, .move (.t 1), none⟩,
    ⟨2, some 26, .bin .add .i64 (.t 24) (.t 25), none⟩,
    ⟨3, some 4, .move (.t 26), none⟩,
    ⟨4, some 5, .move (.k (.c (.bool true))), none⟩]) .ret)
def hodmanref1_Add.d : DFn := { ntmps := 27, res := [.t 4, .t 5], body := (.seq (.region [⟨0, some 4, .move (.k (.c (.int .i64 0))), none⟩,
    ⟨1, some 5, .move (.k (.c (.bool false))), none⟩]) (.seq (.seq (.region [⟨0, some 6, .move (.t 1), none⟩,
    ⟨1, some 7, .cmp .gtr .i64 (.t 6) (.k (.c (.int .i64 0))), none⟩,
    ⟨2, some 8, .move (.t 7), none⟩,
    ⟨3, some 9, .move (.t 0), some (8, true)⟩,
    ⟨4, some 10, .move (.t 1), some (8, true)⟩,
    ⟨5, some 11, .bin .sub .i64 (.k (.c (.int .i64 9223372036854775807))) (.t 10), some (8, true)⟩,
    ⟨6, some 12, .cmp .gtr .i64 (.t 9) (.t 11), some (8, true)⟩,
    ⟨7, some 13, .pick (.t 8) (.t 12) (.k (.c (.bool false))), none⟩,
    ⟨8, some 14, .move (.t 13), none⟩,
    ⟨9, some 15, .move (.t 1), some (14, false)⟩,
    ⟨10, some 16, .cmp .lss .i64 (.t 15) (.k (.c (.int .i64 0))), some (14, false)⟩,
    ⟨11, some 17, .move (.t 16), some (14, false)⟩,
    ⟨12, some 18, .move (.t 0), some (17, true)⟩,
    ⟨13, some 19, .move (.t 1), some (17, true)⟩,
    ⟨14, some 20, .bin .sub .i64 (.k (.c (.int .i64 (-9223372036854775808)))) (.t 19), some (17, true)⟩,
    ⟨15, some 21, .cmp .lss .i64 (.t 18) (.t 20), some (17, true)⟩,
    ⟨16, some 22, .pick (.t 17) (.t 21) (.k (.c (.bool false))), some (14, false)⟩,
    ⟨17, some 23, .pick (.t 14) (.k (.c (.bool true))) (.t 22), none⟩]) (.cut [0, 1, 23] hodmanref1_Add.c6)) hodmanref1_Add.c10)) }
def hodmanref1_Add.k10 (M : Mach) (C : Call) : Kont := execC M.j C (M.ag C) hodmanref1_Add.c10 ({ exits := [], ret := retK hodmanref1_Add.d } : Env) (retK hodmanref1_Add.d)
def hodmanref1_Add.J6 (M : Mach) (C : Call) (a0 : Int) (b1 : Int) (t23 : Bool) (G : GH) : Option Res := M.j (execC M.j C (M.ag C) hodmanref1_Add.c6 ({ exits := [], ret := retK hodmanref1_Add.d } : Env) (hodmanref1_Add.k10 M C)) [.v (.c (.int .i64 a0)), .v (.c (.int .i64 b1)), .und, .und, .und, .und, .und, .und, .und, .und, .und, .und, .und, .und, .und, .und, .und, .und, .und, .und, .und, .und, .und, .v (.c (.bool t23)), .und, .und, .und] G
theorem hodmanref1_Add.J6_eq (M : Mach) (C : Call) (a0 : Int) (b1 : Int) (t23 : Bool) (G : GH) : hodmanref1_Add.J6 M C a0 b1 t23 G = (bif t23 then some ([.c (.int .i64 0), .c (.bool false)], G) else some ([.c (.int .i64 (IntKind.i64.wrap (a0 + b1))), .c (.bool true)], G)) := (M.hj _ _ _).trans (by kernel_rfl)
def hodmanref1_Add.f (M : Mach) (C : Call) (a0 : Int) (b1 : Int) (G : GH) : Option Res := bif decide (b1 > 0) then bif decide (a0 > IntKind.i64.wrap (9223372036854775807 - b1)) then hodmanref1_Add.J6 M C a0 b1 true G else bif decide (b1 < 0) then hodmanref1_Add.J6 M C a0 b1 (decide (a0 < IntKind.i64.wrap ((-9223372036854775808) - b1))) G else hodmanref1_Add.J6 M C a0 b1 false G else bif decide (b1 < 0) then hodmanref1_Add.J6 M C a0 b1 (decide (a0 < IntKind.i64.wrap ((-9223372036854775808) - b1))) G else hodmanref1_Add.J6 M C a0 b1 false G
theorem hodmanref1_Add.eq (M : Mach) (C : Call) (a0 : Int) (b1 : Int) (G : GH) : runF M C hodmanref1_Add.d [.c (.int .i64 a0), .c (.int .i64 b1)] G = hodmanref1_Add.f M C a0 b1 G := by kernel_rfl

/- 29 hodman/hodmanref1.Ceil -/
def hodmanref1_Ceil.c6 : DCode := (.cond (.t 12) (.seq (.region [⟨0, some 4, .move (.k (.c (.int .i64 0))), none⟩]) .ret) .skip)
def hodmanref1_Ceil.c10 : DCode := (.seq (.region [⟨0, some 13, .faddr 2 2, none⟩,
    ⟨1, some 14, .ldL 13 21 (.c (.int .i64)), none⟩,
    ⟨2, some 15, .move (.t 1), none⟩,
    ⟨3, some 16, .faddr 2 2, none⟩,
    ⟨4, some 17, .ldL 16 21 (.c (.int .i64)), none⟩,
    ⟨5, some 18, .bin .quo .i64 (.t 17) (.k (.c (.int .i64 2))), none⟩,
    ⟨6, some 19, .bin .mul .i64 (.t 15) (.t 18), none⟩,
    ⟨7, some 20, .bin .add .i64 (.t 14) (.t 19), none⟩,
    ⟨8, some 4, .move (.t 20), none⟩]) .ret)
def hodmanref1_Ceil.d : DFn := { ntmps := 22, res := [.t 4], body := (.seq (.region [⟨0, some 2, .boxv 21 [9, 13, 16] (.t 0) 8, none⟩,
    ⟨1, some 4, .move (.k (.c (.int .i64 0))), none⟩]) (.seq (.seq (.region [⟨0, some 5, .move (.t 1), none⟩,
    ⟨1, some 6, .cmp .lss .i64 (.t 5) (.k (.c (.int .i64 0))), none⟩,
    ⟨2, some 7, .move (.t 6), none⟩,
    ⟨3, some 8, .move (.t 1), some (7, false)⟩,
    ⟨4, some 9, .faddr 2 3, some (7, false)⟩,
    ⟨5, some 10, .ldL 9 21 (.c (.int .i64)), some (7, false)⟩,
    ⟨6, some 11, .cmp .gtr .i64 (.t 8) (.t 10), some (7, false)⟩,
    ⟨7, some 12, .pick (.t 7) (.k (.c (.bool true))) (.t 11), none⟩]) (.cut [1, 2, 12, 21] hodmanref1_Ceil.c6)) hodmanref1_Ceil.c10)) }
def hodmanref1_Ceil.k10 (M : Mach) (C : Call) : Kont := execC M.j C (M.ag C) hodmanref1_Ceil.c10 ({ exits := [], ret := retK hodmanref1_Ceil.d } : Env) (retK hodmanref1_Ceil.d)
def hodmanref1_Ceil.J6 (M : Mach) (C : Call) (class1 : Int) (t12 : Bool) (c21_0 : Int) (c21_1 : Int) (c21_2 : Int) (c21_3 : Int) (c21_4 : Int) (c21_5 : Int) (c21_6 : Int) (c21_7 : Int) (G : GH) : Option Res := M.j (execC M.j C (M.ag C) hodmanref1_Ceil.c6 ({ exits := [], ret := retK hodmanref1_Ceil.d } : Env) (hodmanref1_Ceil.k10 M C)) [.und, .v (.c (.int .i64 class1)), .ref 21 0, .und, .und, .und, .und, .und, .und, .und, .und, .und, .v (.c (.bool t12)), .und, .und, .und, .und, .und, .und, .und, .und, .box [.int .i64 c21_0, .int .i64 c21_1, .int .i64 c21_2, .int .i64 c21_3, .int .i64 c21_4, .int .i64 c21_5, .int .i64 c21_6, .int .i64 c21_7]] G
theorem hodmanref1_Ceil.J6_eq (M : Mach) (C : Call) (class1 : Int) (t12 : Bool) (c21_0 : Int) (c21_1 : Int) (c21_2 : Int) (c21_3 : Int) (c21_4 : Int) (c21_5 : Int) (c21_6 : Int) (c21_7 : Int) (G : GH) : hodmanref1_Ceil.J6 M C class1 t12 c21_0 c21_1 c21_2 c21_3 c21_4 c21_5 c21_6 c21_7 G = (bif t12 then some ([.c (.int .i64 0)], G) else some ([.c (.int .i64 (IntKind.i64.wrap (c21_2 + (IntKind.i64.wrap (class1 * (IntKind.i64.wrap (Int.tdiv c21_2 2)))))))], G)) := (M.hj _ _ _).trans (by kernel_rfl)
def hodmanref1_Ceil.f (M : Mach) (C : Call) (c0_0 : Int) (c0_1 : Int) (c0_2 : Int) (c0_3 : Int) (c0_4 : Int) (c0_5 : Int) (c0_6 : Int) (c0_7 : Int) (class1 : Int) (G : GH) : Option Res := bif decide (class1 < 0) then hodmanref1_Ceil.J6 M C class1 true c0_0 c0_1 c0_2 c0_3 c0_4 c0_5 c0_6 c0_7 G else hodmanref1_Ceil.J6 M C class1 (decide (class1 > c0_3)) c0_0 c0_1 c0_2 c0_3 c0_4 c0_5 c0_6 c0_7 G
theorem hodmanref1_Ceil.eq (M : Mach) (C : Call) (c0_0 : Int) (c0_1 : Int) (c0_2 : Int) (c0_3 : Int) (c0_4 : Int) (c0_5 : Int) (c0_6 : Int) (c0_7 : Int) (class1 : Int) (G : GH) : runF M C hodmanref1_Ceil.d [.agg [.int .i64 c0_0, .int .i64 c0_1, .int .i64 c0_2, .int .i64 c0_3, .int .i64 c0_4, .int .i64 c0_5, .int .i64 c0_6, .int .i64 c0_7], .c (.int .i64 class1)] G = hodmanref1_Ceil.f M C c0_0 c0_1 c0_2 c0_3 c0_4 c0_5 c0_6 c0_7 class1 G := by kernel_rfl

/- 44 hodman/hodmanref1.Round -/
def hodmanref1_Round.c6 : DCode := (.cond (.t 11) (.seq (.region [⟨0, some 4, .move (.k (.c (.int .i64 0))), none⟩,
    ⟨1, some 5, .move (.k (.c (.bool false))), none⟩]) .ret) .skip)
def hodmanref1_Round.c18 : DCode := (.seq (.seq (.region [⟨0, some 12, .move (.t 0), none⟩,
    ⟨1, some 13, .move (.t 1), none⟩,
    ⟨2, some 14, .bin .rem .i64 (.t 12) (.t 13), none⟩,
    ⟨3, some 15, .cmp .eql .i64 (.t 14) (.k (.c (.int .i64 0))), none⟩]) (.cond (.t 15) (.seq (.region [⟨0, some 16, .move (.t 0), none⟩,
    ⟨1, some 4, .move (.t 16), none⟩,
    ⟨2, some 5, .move (.k (.c (.bool true))), none⟩]) .ret) .skip)) (.seq (.region [⟨0, some 17, .move (.t 0), none⟩,
    ⟨1, some 18, .move (.t 0), none⟩,
    ⟨2, some 19, .move (.t 1), none⟩,
    ⟨3, some 20, .bin .rem .i64 (.t 18) (.t 19), none⟩,
    ⟨4, some 21, .bin .sub .i64 (.t 17) (.t 20), none⟩,
    ⟨5, some 22, .move (.t 1), none⟩,
    ⟨6, some 23, .call 49 [.t 21, .t 22] [.c (.int .i64), .c (.bool)], none⟩,
    ⟨7, some 24, .ext 23 0, none⟩,
    ⟨8, some 25, .ext 23 1, none⟩,
    ⟨9, some 4, .move (.t 24), none⟩,
    ⟨10, some 5, .move (.t 25), none⟩]) .ret))
def hodmanref1_Round.d : DFn := { ntmps := 26, res := [.t 4, .t 5], body := (.seq (.region [⟨0, some 4, .move (.k (.c (.int .i64 0))), none⟩,
    ⟨1, some 5, .move (.k (.c (.bool false))), none⟩]) (.seq (.seq (.region [⟨0, some 6, .move (.t 0), none⟩,
    ⟨1, some 7, .cmp .lss .i64 (.t 6) (.k (.c (.int .i64 0))), none⟩,
    ⟨2, some 8, .move (.t 7), none⟩,
    ⟨3, some 9, .move (.t 1), some (8, false)⟩,
    ⟨4, some 10, .cmp .lss .i64 (.t 9) (.k (.c (.int .i64 1))), some (8, false)⟩,
    ⟨5, some 11, .pick (.t 8) (.k (.c (.bool true))) (.t 10), none⟩]) (.cut [0, 1, 11] hodmanref1_Round.c6)) hodmanref1_Round.c18)) }
def hodmanref1_Round.k18 (M : Mach) (C : Call) : Kont := execC M.j C (M.ag C) hodmanref1_Round.c18 ({ exits := [], ret := retK hodmanref1_Round.d } : Env) (retK hodmanref1_Round.d)
def hodmanref1_Round.J6 (M : Mach) (C : Call) (v0 : Int) (to1 : Int) (t11 : Bool) (G : GH) : Option Res := M.j (execC M.j C (M.ag C) hodmanref1_Round.c6 ({ exits := [], ret := retK hodmanref1_Round.d } : Env) (hodmanref1_Round.k18 M C)) [.v (.c (.int .i64 v0)), .v (.c (.int .i64 to1)), .und, .und, .und, .und, .und, .und, .und, .und, .und, .v (.c (.bool t11)), .und, .und, .und, .und, .und, .und, .und, .und, .und, .und, .und, .und, .und, .und] G
theorem hodmanref1_Round.J6_eq (M : Mach) (C : Call) (v0 : Int) (to1 : Int) (t11 : Bool) (G : GH) : hodmanref1_Round.J6 M C v0 to1 t11 G = (bif t11 then some ([.c (.int .i64 0), .c (.bool false)], G) else (binD .rem .i64 v0 to1).bind fun qx_1 => bif decide (qx_1 = 0) then some ([.c (.int .i64 v0), .c (.bool true)], G) else (binD .rem .i64 v0 to1).bind fun qx_2 => (C hodmanref1_Add.id [.c (.int .i64 (IntKind.i64.wrap (v0 - qx_2))), .c (.int .i64 to1)] G).bind fun qr_3 => (((qr_3.1[0]?).bind V1.c?).bind (Cell.asI .i64)).bind fun qx_4 => (((qr_3.1[1]?).bind V1.c?).bind Cell.asB).bind fun qb_5 => some ([.c (.int .i64 qx_4), .c (.bool qb_5)], qr_3.2)) := (M.hj _ _ _).trans (by kernel_rfl)
def hodmanref1_Round.f (M : Mach) (C : Call) (v0 : Int) (to1 : Int) (G : GH) : Option Res := bif decide (v0 < 0) then hodmanref1_Round.J6 M C v0 to1 true G else hodmanref1_Round.J6 M C v0 to1 (decide (to1 < 1)) G
theorem hodmanref1_Round.eq (M : Mach) (C : Call) (v0 : Int) (to1 : Int) (G : GH) : runF M C hodmanref1_Round.d [.c (.int .i64 v0), .c (.int .i64 to1)] G = hodmanref1_Round.f M C v0 to1 G := by kernel_rfl

/- 38 hodman/calc.Up -/
def calc_Up.c6 : DCode := (.cond (.t 10) (.seq (.region [⟨0, some 2, .move (.k (.c (.int .i64 0))), none⟩,
    ⟨1, some 3, .move (.k (.c (.bool false))), none⟩]) .ret) .skip)
def calc_Up.c16 : DCode := (.seq (.seq (.region [⟨0, some 11, .move (.t 4), none⟩,
    ⟨1, some 12, .move (.t 0), none⟩,
    ⟨2, some 13, .cmp .lss .i64 (.t 11) (.t 12), none⟩]) (.cond (.t 13) .skip (.exit 0))) (.block 1 (.region [⟨0, some 14, .move (.t 4), none⟩,
    ⟨1, some 15, .bin .shl .i64 (.t 14) (.k (.c (.int .u64 1))), none⟩,
    ⟨2, some 4, .move (.t 15), none⟩])))
def calc_Up.c21 : DCode := (.seq (.region [⟨0, some 16, .move (.t 4), none⟩,
    ⟨1, some 2, .move (.t 16), none⟩,
    ⟨2, some 3, .move (.k (.c (.bool true))), none⟩]) .ret)
def calc_Up.c23 : DCode := (.seq (.region [⟨0, some 4, .move (.k (.c (.int .i64 1))), none⟩]) (.seq (.block 0 (.loop [0, 4] calc_Up.c16)) calc_Up.c21))
def calc_Up.d : DFn := { ntmps := 17, res := [.t 2, .t 3], body := (.seq (.region [⟨0, some 2, .move (.k (.c (.int .i64 0))), none⟩,
    ⟨1, some 3, .move (.k (.c (.bool false))), none⟩]) (.seq (.seq (.region [⟨0, some 5, .move (.t 0), none⟩,
    ⟨1, some 6, .cmp .lss .i64 (.t 5) (.k (.c (.int .i64 1))), none⟩,
    ⟨2, some 7, .move (.t 6), none⟩,
    ⟨3, some 8, .move (.t 0), some (7, false)⟩,
    ⟨4, some 9, .cmp .gtr .i64 (.t 8) (.k (.c (.int .i64 4611686018427387904))), some (7, false)⟩,
    ⟨5, some 10, .pick (.t 7) (.k (.c (.bool true))) (.t 9), none⟩]) (.cut [0, 10] calc_Up.c6)) calc_Up.c23)) }
def calc_Up.k23 (M : Mach) (C : Call) : Kont := execC M.j C (M.ag C) calc_Up.c23 ({ exits := [], ret := retK calc_Up.d } : Env) (retK calc_Up.d)
def calc_Up.J6 (M : Mach) (C : Call) (v0 : Int) (t10 : Bool) (G : GH) : Option Res := M.j (execC M.j C (M.ag C) calc_Up.c6 ({ exits := [], ret := retK calc_Up.d } : Env) (calc_Up.k23 M C)) [.v (.c (.int .i64 v0)), .und, .und, .und, .und, .und, .und, .und, .und, .und, .v (.c (.bool t10)), .und, .und, .und, .und, .und, .und] G
def calc_Up.k21 (M : Mach) (C : Call) : Kont := execC M.j C (M.ag C) calc_Up.c21 ({ exits := [], ret := retK calc_Up.d } : Env) (retK calc_Up.d)
def calc_Up.e18 (M : Mach) (C : Call) : Env := { exits := (0, (calc_Up.k21 M C)) :: (({ exits := [], ret := retK calc_Up.d } : Env)).exits, ret := (({ exits := [], ret := retK calc_Up.d } : Env)).ret }
def calc_Up.L17 (M : Mach) (C : Call) (v0 : Int) (p4 : Int) (G : GH) : Option Res := M.ag C [0, 4] calc_Up.c16 (calc_Up.e18 M C) (calc_Up.k21 M C) [.v (.c (.int .i64 v0)), .und, .und, .und, .v (.c (.int .i64 p4)), .und, .und, .und, .und, .und, .und, .und, .und, .und, .und, .und, .und] G
theorem calc_Up.J6_eq (M : Mach) (C : Call) (v0 : Int) (t10 : Bool) (G : GH) : calc_Up.J6 M C v0 t10 G = (bif t10 then some ([.c (.int .i64 0), .c (.bool false)], G) else calc_Up.L17 M C v0 1 G) := (M.hj _ _ _).trans (by kernel_rfl)
theorem calc_Up.L17_eq (M : Mach) (C : Call) (v0 : Int) (p4 : Int) (G : GH) : calc_Up.L17 M C v0 p4 G = (bif decide (p4 < v0) then calc_Up.L17 M C v0 (IntKind.i64.wrap (p4 * 2 ^ (min (1 : Int).toNat IntKind.i64.bits))) G else some ([.c (.int .i64 p4), .c (.bool true)], G)) := (M.hs _ _ _ _ _ _ _).trans (by kernel_rfl)
def calc_Up.f (M : Mach) (C : Call) (v0 : Int) (G : GH) : Option Res := bif decide (v0 < 1) then calc_Up.J6 M C v0 true G else calc_Up.J6 M C v0 (decide (v0 > 4611686018427387904)) G
theorem calc_Up.eq (M : Mach) (C : Call) (v0 : Int) (G : GH) : runF M C calc_Up.d [.c (.int .i64 v0)] G = calc_Up.f M C v0 G := by kernel_rfl

/- 28 hodman/conf.Ceil -/
def conf_Ceil.c6 : DCode := (.cond (.t 12) (.seq (.region [⟨0, some 4, .move (.k (.c (.int .i64 0))), none⟩]) .ret) .skip)
def conf_Ceil.c10 : DCode := (.seq (.region [⟨0, some 13, .faddr 2 2, none⟩,
    ⟨1, some 14, .ldL 13 21 (.c (.int .i64)), none⟩,
    ⟨2, some 15, .move (.t 1), none⟩,
    ⟨3, some 16, .faddr 2 2, none⟩,
    ⟨4, some 17, .ldL 16 21 (.c (.int .i64)), none⟩,
    ⟨5, some 18, .bin .shr .i64 (.t 17) (.k (.c (.int .u64 1))), none⟩,
    ⟨6, some 19, .bin .mul .i64 (.t 15) (.t 18), none⟩,
    ⟨7, some 20, .bin .add .i64 (.t 14) (.t 19), none⟩,
    ⟨8, some 4, .move (.t 20), none⟩]) .ret)
def conf_Ceil.d : DFn := { ntmps := 22, res := [.t 4], body := (.seq (.region [⟨0, some 2, .boxv 21 [9, 13, 16] (.t 0) 8, none⟩,
    ⟨1, some 4, .move (.k (.c (.int .i64 0))), none⟩]) (.seq (.seq (.region [⟨0, some 5, .move (.t 1), none⟩,
    ⟨1, some 6, .cmp .lss .i64 (.t 5) (.k (.c (.int .i64 0))), none⟩,
    ⟨2, some 7, .move (.t 6), none⟩,
    ⟨3, some 8, .move (.t 1), some (7, false)⟩,
    ⟨4, some 9, .faddr 2 3, some (7, false)⟩,
    ⟨5, some 10, .ldL 9 21 (.c (.int .i64)), some (7, false)⟩,
    ⟨6, some 11, .cmp .gtr .i64 (.t 8) (.t 10), some (7, false)⟩,
    ⟨7, some 12, .pick (.t 7) (.k (.c (.bool true))) (.t 11), none⟩]) (.cut [1, 2, 12, 21] conf_Ceil.c6)) conf_Ceil.c10)) }
def conf_Ceil.k10 (M : Mach) (C : Call) : Kont := execC M.j C (M.ag C) conf_Ceil.c10 ({ exits := [], ret := retK conf_Ceil.d } : Env) (retK conf_Ceil.d)
def conf_Ceil.J6 (M : Mach) (C : Call) (class1 : Int) (t12 : Bool) (c21_0 : Int) (c21_1 : Int) (c21_2 : Int) (c21_3 : Int) (c21_4 : Int) (c21_5 : Int) (c21_6 : Int) (c21_7 : Int) (G : GH) : Option Res := M.j (execC M.j C (M.ag C) conf_Ceil.c6 ({ exits := [], ret := retK conf_Ceil.d } : Env) (conf_Ceil.k10 M C)) [.und, .v (.c (.int .i64 class1)), .ref 21 0, .und, .und, .und, .und, .und, .und, .und, .und, .und, .v (.c (.bool t12)), .und, .und, .und, .und, .und, .und, .und, .und, .box [.int .i64 c21_0, .int .i64 c21_1, .int .i64 c21_2, .int .i64 c21_3, .int .i64 c21_4, .int .i64 c21_5, .int .i64 c21_6, .int .i64 c21_7]] G
theorem conf_Ceil.J6_eq (M : Mach) (C : Call) (class1 : Int) (t12 : Bool) (c21_0 : Int) (c21_1 : Int) (c21_2 : Int) (c21_3 : Int) (c21_4 : Int) (c21_5 : Int) (c21_6 : Int) (c21_7 : Int) (G : GH) : conf_Ceil.J6 M C class1 t12 c21_0 c21_1 c21_2 c21_3 c21_4 c21_5 c21_6 c21_7 G = (bif t12 then some ([.c (.int .i64 0)], G) else some ([.c (.int .i64 (IntKind.i64.wrap (c21_2 + (IntKind.i64.wrap (class1 * (Int.fdiv c21_2 (2 ^ (min (1 : Int).toNat IntKind.i64.bits))))))))], G)) := (M.hj _ _ _).trans (by kernel_rfl)
def conf_Ceil.f (M : Mach) (C : Call) (c0_0 : Int) (c0_1 : Int) (c0_2 : Int) (c0_3 : Int) (c0_4 : Int) (c0_5 : Int) (c0_6 : Int) (c0_7 : Int) (class1 : Int) (G : GH) : Option Res := bif decide (class1 < 0) then conf_Ceil.J6 M C class1 true c0_0 c0_1 c0_2 c0_3 c0_4 c0_5 c0_6 c0_7 G else conf_Ceil.J6 M C class1 (decide (class1 > c0_3)) c0_0 c0_1 c0_2 c0_3 c0_4 c0_5 c0_6 c0_7 G
theorem conf_Ceil.eq (M : Mach) (C : Call) (c0_0 : Int) (c0_1 : Int) (c0_2 : Int) (c0_3 : Int) (c0_4 : Int) (c0_5 : Int) (c0_6 : Int) (c0_7 : Int) (class1 : Int) (G : GH) : runF M C conf_Ceil.d [.agg [.int .i64 c0_0, .int .i64 c0_1, .int .i64 c0_2, .int .i64 c0_3, .int .i64 c0_4, .int .i64 c0_5, .int .i64 c0_6, .int .i64 c0_7], .c (.int .i64 class1)] G = conf_Ceil.f M C c0_0 c0_1 c0_2 c0_3 c0_4 c0_5 c0_6 c0_7 class1 G := by kernel_rfl

/- 47 hodman/calc.Round -/
def calc_Round.c6 : DCode := (.cond (.t 12) (.seq (.region [⟨0, some 4, .move (.k (.c (.int .i64 0))), none⟩,
    ⟨1, some 5, .move (.k (.c (.bool false))), none⟩]) .ret) .skip)
def calc_Round.c20 : DCode := (.seq (.region [⟨0, some 13, .move (.t 0), none⟩,
    ⟨1, some 14, .move (.t 1), none⟩,
    ⟨2, some 15, .bin .rem .i64 (.t 13) (.t 14), none⟩,
    ⟨3, some 6, .move (.t 15), none⟩]) (.seq (.seq (.region [⟨0, some 16, .move (.t 6), none⟩,
    ⟨1, some 17, .cmp .eql .i64 (.t 16) (.k (.c (.int .i64 0))), none⟩]) (.cond (.t 17) (.seq (.region [⟨0, some 18, .move (.t 0), none⟩,
    ⟨1, some 4, .move (.t 18), none⟩,
    ⟨2, some 5, .move (.k (.c (.bool true))), none⟩]) .ret) .skip)) (.seq (.region [⟨0, some 19, .move (.t 0), none⟩,
    ⟨1, some 20, .move (.t 1), none⟩,
    ⟨2, some 21, .move (.t 6), none⟩,
    ⟨3, some 22, .bin .sub .i64 (.t 20) (.t 21), none⟩,
    ⟨4, some 23, .call 48 [.t 19, .t 22] [.c (.int .i64), .c (.bool)], none⟩,
    ⟨5, some 24, .ext 23 0, none⟩,
    ⟨6, some 25, .ext 23 1, none⟩,
    ⟨7, some 4, .move (.t 24), none⟩,
    ⟨8, some 5, .move (.t 25), none⟩]) .ret)))
def calc_Round.d : DFn := { ntmps := 26, res := [.t 4, .t 5], body := (.seq (.region [⟨0, some 4, .move (.k (.c (.int .i64 0))), none⟩,
    ⟨1, some 5, .move (.k (.c (.bool false))), none⟩]) (.seq (.seq (.region [⟨0, some 7, .move (.t 0), none⟩,
    ⟨1, some 8, .cmp .lss .i64 (.t 7) (.k (.c (.int .i64 0))), none⟩,
    ⟨2, some 9, .move (.t 8), none⟩,
    ⟨3, some 10, .move (.t 1), some (9, false)⟩,
    ⟨4, some 11, .cmp .lss .i64 (.t 10) (.k (.c (.int .i64 1))), some (9, false)⟩,
    ⟨5, some 12, .pick (.t 9) (.k (.c (.bool true))) (.t 11), none⟩]) (.cut [0, 1, 12] calc_Round.c6)) calc_Round.c20)) }
def calc_Round.k20 (M : Mach) (C : Call) : Kont := execC M.j C (M.ag C) calc_Round.c20 ({ exits := [], ret := retK calc_Round.d } : Env) (retK calc_Round.d)
def calc_Round.J6 (M : Mach) (C : Call) (v0 : Int) (to1 : Int) (t12 : Bool) (G : GH) : Option Res := M.j (execC M.j C (M.ag C) calc_Round.c6 ({ exits := [], ret := retK calc_Round.d } : Env) (calc_Round.k20 M C)) [.v (.c (.int .i64 v0)), .v (.c (.int .i64 to1)), .und, .und, .und, .und, .und, .und, .und, .und, .und, .und, .v (.c (.bool t12)), .und, .und, .und, .und, .und, .und, .und, .und, .und, .und, .und, .und, .und] G
theorem calc_Round.J6_eq (M : Mach) (C : Call) (v0 : Int) (to1 : Int) (t12 : Bool) (G : GH) : calc_Round.J6 M C v0 to1 t12 G = (bif t12 then some ([.c (.int .i64 0), .c (.bool false)], G) else (binD .rem .i64 v0 to1).bind fun qx_1 => bif decide (qx_1 = 0) then some ([.c (.int .i64 v0), .c (.bool true)], G) else (C calc_Add.id [.c (.int .i64 v0), .c (.int .i64 (IntKind.i64.wrap (to1 - qx_1)))] G).bind fun qr_2 => (((qr_2.1[0]?).bind V1.c?).bind (Cell.asI .i64)).bind fun qx_3 => (((qr_2.1[1]?).bind V1.c?).bind Cell.asB).bind fun qb_4 => some ([.c (.int .i64 qx_3), .c (.bool qb_4)], qr_2.2)) := (M.hj _ _ _).trans (by kernel_rfl)
def calc_Round.f (M : Mach) (C : Call) (v0 : Int) (to1 : Int) (G : GH) : Option Res := bif decide (v0 < 0) then calc_Round.J6 M C v0 to1 true G else calc_Round.J6 M C v0 to1 (decide (to1 < 1)) G
theorem calc_Round.eq (M : Mach) (C : Call) (v0 : Int) (to1 : Int) (G : GH) : runF M C calc_Round.d [.c (.int .i64 v0), .c (.int .i64 to1)] G = calc_Round.f M C v0 to1 G := by kernel_rfl

/- 43 hodman/hodmanref1.Size -/
def hodmanref1_Size.c12 : DCode := (.seq (.seq (.region [⟨0, some 9, .move (.t 6), none⟩,
    ⟨1, some 10, .move (.t 1), none⟩,
    ⟨2, some 11, .cmp .lss .i64 (.t 9) (.t 10), none⟩]) (.cond (.t 11) .skip (.exit 0))) (.seq (.block 1 (.region [⟨0, some 14, .move (.t 5), none⟩,
    ⟨1, some 15, .bin .mul .i64 (.t 14) (.k (.c (.int .i64 2))), none⟩,
    ⟨2, some 5, .move (.t 15), none⟩])) (.region [⟨0, some 12, .move (.t 6), none⟩,
    ⟨1, some 13, .bin .add .i64 (.t 12) (.k (.c (.int .i64 1))), none⟩,
    ⟨2, some 6, .move (.t 13), none⟩])))
def hodmanref1_Size.c18 : DCode := (.seq (.region [⟨0, some 16, .move (.t 5), none⟩,
    ⟨1, some 4, .move (.t 16), none⟩]) .ret)
def hodmanref1_Size.d : DFn := { ntmps := 18, res := [.t 4], body := (.seq (.region [⟨0, some 2, .boxv 17 [7] (.t 0) 8, none⟩,
    ⟨1, some 4, .move (.k (.c (.int .i64 0))), none⟩]) (.seq (.region [⟨0, some 7, .faddr 2 0, none⟩,
    ⟨1, some 8, .ldL 7 17 (.c (.int .i64)), none⟩,
    ⟨2, some 5, .move (.t 8), none⟩]) (.seq (.seq (.region [⟨0, some 6, .move (.k (.c (.int .i64 0))), none⟩]) (.block 0 (.loop [1, 5, 6] hodmanref1_Size.c12))) hodmanref1_Size.c18))) }
def hodmanref1_Size.k18 (M : Mach) (C : Call) : Kont := execC M.j C (M.ag C) hodmanref1_Size.c18 ({ exits := [], ret := retK hodmanref1_Size.d } : Env) (retK hodmanref1_Size.d)
def hodmanref1_Size.e14 (M : Mach) (C : Call) : Env := { exits := (0, (hodmanref1_Size.k18 M C)) :: (({ exits := [], ret := retK hodmanref1_Size.d } : Env)).exits, ret := (({ exits := [], ret := retK hodmanref1_Size.d } : Env)).ret }
def hodmanref1_Size.L13 (M : Mach) (C : Call) (class1 : Int) (n5 : Int) (i6 : Int) (G : GH) : Option Res := M.ag C [1, 5, 6] hodmanref1_Size.c12 (hodmanref1_Size.e14 M C) (hodmanref1_Size.k18 M C) [.und, .v (.c (.int .i64 class1)), .und, .und, .und, .v (.c (.int .i64 n5)), .v (.c (.int .i64 i6)), .und, .und, .und, .und, .und, .und, .und, .und, .und, .und, .und] G
theorem hodmanref1_Size.L13_eq (M : Mach) (C : Call) (class1 : Int) (n5 : Int) (i6 : Int) (G : GH) : hodmanref1_Size.L13 M C class1 n5 i6 G = (bif decide (i6 < class1) then hodmanref1_Size.L13 M C class1 (IntKind.i64.wrap (n5 * 2)) (IntKind.i64.wrap (i6 + 1)) G else some ([.c (.int .i64 n5)], G)) := (M.hs _ _ _ _ _ _ _).trans (by kernel_rfl)
def hodmanref1_Size.f (M : Mach) (C : Call) (c0_0 : Int) (c0_1 : Int) (c0_2 : Int) (c0_3 : Int) (c0_4 : Int) (c0_5 : Int) (c0_6 : Int) (c0_7 : Int) (class1 : Int) (G : GH) : Option Res := hodmanref1_Size.L13 M C class1 c0_0 0 G
theorem hodmanref1_Size.eq (M : Mach) (C : Call) (c0_0 : Int) (c0_1 : Int) (c0_2 : Int) (c0_3 : Int) (c0_4 : Int) (c0_5 : Int) (c0_6 : Int) (c0_7 : Int) (class1 : Int) (G : GH) : runF M C hodmanref1_Size.d [.agg [.int .i64 c0_0, .int .i64 c0_1, .int .i64 c0_2, .int .i64 c0_3, .int .i64 c0_4, .int .i64 c0_5, .int .i64 c0_6, .int .i64 c0_7], .c (.int .i64 class1)] G = hodmanref1_Size.f M C c0_0 c0_1 c0_2 c0_3 c0_4 c0_5 c0_6 c0_7 class1 G := by kernel_rfl

/- 48 hodman/calc.Add -/
def calc_Add.d : DFn := { ntmps := 22, res := [.t 4, .t 5], body := (.seq (.region [⟨0, some 4, .move (.k (.c (.int .i64 0))), none⟩,
    ⟨1, some 5, .move (.k (.c (.bool false))), none⟩]) (.seq (.region [⟨0, some 7, .move (.t 0), none⟩,
    ⟨1, some 8, .conv .u64 (.t 7), none⟩,
    ⟨2, some 9, .move (.t 1), none⟩,
    ⟨3, some 10, .conv .u64 (.t 9), none⟩,
    ⟨4, some 11, .bin .add .u64 (.t 8) (.t 10), none⟩,
    ⟨5, some 12, .conv .i64 (.t 11), none⟩,
    ⟨6, some 6, .move (.t 12), none⟩]) (.seq (.seq (.region [⟨0, some 13, .move (.t 0), none⟩,
    ⟨1, some 14, .move (.t 6), none⟩,
    ⟨2, some 15, .bin .xor .i64 (.t 13) (.t 14), none⟩,
    ⟨3, some 16, .move (.t 1), none⟩,
    ⟨4, some 17, .move (.t 6), none⟩,
    ⟨5, some 18, .bin .xor .i64 (.t 16) (.t 17), none⟩,
    ⟨6, some 19, .bin .and .i64 (.t 15) (.t 18), none⟩,
    ⟨7, some 20, .cmp .lss .i64 (.t 19) (.k (.c (.int .i64 0))), none⟩]) (.cond (.t 20) (.seq (.region [⟨0, some 4, .move (.k (.c (.int .i64 0))), none⟩,
    ⟨1, some 5, .move (.k (.c (.bool false))), none⟩]) .ret) .skip)) (.seq (.region [⟨0, some 21, .move (.t 6), none⟩,
    ⟨1, some 4, .move (.t 21), none⟩,
    ⟨2, some 5, .move (.k (.c (.bool true))), none⟩]) .ret)))) }
def calc_Add.f (M : Mach) (C : Call) (a0 : Int) (b1 : Int) (G : GH) : Option Res := bif decide (IntKind.i64.wrap (((BitVec.ofInt IntKind.i64.bits (IntKind.i64.wrap (((BitVec.ofInt IntKind.i64.bits a0) ^^^ (BitVec.ofInt IntKind.i64.bits (IntKind.i64.wrap (IntKind.u64.wrap ((IntKind.u64.wrap a0) + (IntKind.u64.wrap b1)))))).toNat : Int))) &&& (BitVec.ofInt IntKind.i64.bits (IntKind.i64.wrap (((BitVec.ofInt IntKind.i64.bits b1) ^^^ (BitVec.ofInt IntKind.i64.bits (IntKind.i64.wrap (IntKind.u64.wrap ((IntKind.u64.wrap a0) + (IntKind.u64.wrap b1)))))).toNat : Int)))).toNat : Int) < 0) then some ([.c (.int .i64 0), .c (.bool false)], G) else some ([.c (.int .i64 (IntKind.i64.wrap (IntKind.u64.wrap ((IntKind.u64.wrap a0) + (IntKind.u64.wrap b1))))), .c (.bool true)], G)
theorem calc_Add.eq (M : Mach) (C : Call) (a0 : Int) (b1 : Int) (G : GH) : runF M C calc_Add.d [.c (.int .i64 a0), .c (.int .i64 b1)] G = calc_Add.f M C a0 b1 G := by kernel_rfl

/- 15 hodman/hodmanplay.Made -/
def hodmanplay_Made.d : DFn := { ntmps := 6, res := [.t 2], body := (.seq (.region [⟨0, some 2, .move (.k (.c (.ptr 0 0))), none⟩]) (.seq (.region [⟨0, some 3, .move (.t 0), none⟩,
    ⟨1, some 4, .build [.sl 1 0 0 0, .int .i64 0] [(0, 1, .t 3)], none⟩,
    ⟨2, some 5, .newv (.t 4) 2, none⟩,
    ⟨3, some 2, .move (.t 5), none⟩]) .ret)) }
def hodmanplay_Made.f (M : Mach) (C : Call) (l0i : Nat) (l0o : Nat) (l0n : Nat) (G : GH) : Option Res := let qG_1 := G.alloc (.row [.sl 1 l0i l0o l0n, .int .i64 0] false); some ([.c (.ptr G.next 0)], qG_1)
theorem hodmanplay_Made.eq (M : Mach) (C : Call) (l0i : Nat) (l0o : Nat) (l0n : Nat) (G : GH) : runF M C hodmanplay_Made.d [.c (.sl 1 l0i l0o l0n)] G = hodmanplay_Made.f M C l0i l0o l0n G := by kernel_rfl
end Go.Proofs.D
