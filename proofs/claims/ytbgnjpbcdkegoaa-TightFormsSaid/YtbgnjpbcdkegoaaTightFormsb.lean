/- Texts of the proof (T0); no condition. -/
import Derived.Test.YtbgnjpbcdkegoaaTightFormsa
import Derived.KernelRfl
set_option linter.unusedSimpArgs false
set_option linter.unusedVariables false
set_option linter.unusedVariables false
set_option maxRecDepth 100000
namespace Go.Proofs.D
open Go
/- 24 hodman/hodmanref1.Of -/
def hodmanref1_Of.c13 : DCode := (.cond (.t 31) (.seq (.region [⟨0, some 32, .build [.int .i64 0, .int .i64 0, .int .i64 0, .int .i64 0, .int .i64 0, .int .i64 0, .int .i64 0, .int .i64 0] [], none⟩,
    ⟨1, none, .stL 2 123 (.t 32) 8, none⟩,
    ⟨2, some 3, .move (.k (.c (.int .i64 1))), none⟩]) .ret) .skip)
def hodmanref1_Of.c16 : DCode := (.region [⟨0, some 18, .move (.t 5), none⟩,
    ⟨1, some 19, .bin .add .i64 (.t 18) (.k (.c (.int .i64 1))), none⟩,
    ⟨2, some 5, .move (.t 19), none⟩])
def hodmanref1_Of.c18 : DCode := (.seq (.seq (.region [⟨0, some 16, .move (.t 5), none⟩,
    ⟨1, some 17, .cmp .lss .i64 (.t 16) (.k (.c (.int .i64 4))), none⟩]) (.cond (.t 17) .skip (.exit 0))) (.seq (.block 1 (.seq (.region [⟨0, some 20, .move (.t 4), none⟩,
    ⟨1, some 21, .move (.t 5), none⟩,
    ⟨2, some 22, .iaddr (.t 20) (.t 21) 1, none⟩,
    ⟨3, some 23, .ldG 22 (.c (.int .i64)), none⟩,
    ⟨4, some 24, .cmp .lss .i64 (.t 23) (.k (.c (.int .i64 1))), none⟩,
    ⟨5, some 25, .move (.t 24), none⟩,
    ⟨6, some 26, .move (.t 4), some (25, false)⟩,
    ⟨7, some 27, .move (.t 5), some (25, false)⟩,
    ⟨8, some 28, .iaddr (.t 26) (.t 27) 1, some (25, false)⟩,
    ⟨9, some 29, .ldG 28 (.c (.int .i64)), some (25, false)⟩,
    ⟨10, some 30, .cmp .gtr .i64 (.t 29) (.k (.c (.int .i64 65536))), some (25, false)⟩,
    ⟨11, some 31, .pick (.t 25) (.k (.c (.bool true))) (.t 30), none⟩]) (.cut [1, 2, 4, 5, 31, 122, 123] hodmanref1_Of.c13))) hodmanref1_Of.c16))
def hodmanref1_Of.c19 : DCode := (.loop [1, 2, 4, 5, 122, 123] hodmanref1_Of.c18)
def hodmanref1_Of.c27 : DCode := (.cond (.t 50) (.seq (.region [⟨0, some 51, .build [.int .i64 0, .int .i64 0, .int .i64 0, .int .i64 0, .int .i64 0, .int .i64 0, .int .i64 0, .int .i64 0] [], none⟩,
    ⟨1, none, .stL 2 123 (.t 51) 8, none⟩,
    ⟨2, some 3, .move (.k (.c (.int .i64 1))), none⟩]) .ret) .skip)
def hodmanref1_Of.c53 : DCode := (.seq (.region [⟨0, some 52, .faddr 1 4, none⟩,
    ⟨1, some 53, .ldL 52 122 (.c (.int .i64)), none⟩,
    ⟨2, some 54, .faddr 1 5, none⟩,
    ⟨3, some 55, .ldL 54 122 (.c (.int .i64)), none⟩,
    ⟨4, some 56, .build [.int .i64 0, .int .i64 0, .int .i64 0, .int .i64 0, .int .i64 0, .int .i64 0, .int .i64 0, .int .i64 0] [(5, 1, .t 53), (7, 1, .t 55)], none⟩,
    ⟨5, some 6, .boxz 124 [63, 67, 73, 77, 83, 87, 89, 96, 98, 100, 106, 107, 109, 111, 116, 117] [.int .i64 0, .int .i64 0, .int .i64 0, .int .i64 0, .int .i64 0, .int .i64 0, .int .i64 0, .int .i64 0], none⟩,
    ⟨6, none, .stL 6 124 (.t 56) 8, none⟩]) (.seq (.region [⟨0, some 58, .faddr 1 0, none⟩,
    ⟨1, some 59, .ldL 58 122 (.c (.int .i64)), none⟩,
    ⟨2, some 60, .call 44 [.t 59] [.c (.int .i64), .c (.bool)], none⟩,
    ⟨3, some 57, .move (.t 60), none⟩,
    ⟨4, some 61, .ext 57 0, none⟩,
    ⟨5, some 62, .ext 57 1, none⟩,
    ⟨6, some 63, .faddr 6 0, none⟩,
    ⟨7, none, .stL 63 124 (.t 61) 1, none⟩]) (.seq (.region [⟨0, some 65, .faddr 1 1, none⟩,
    ⟨1, some 66, .ldL 65 122 (.c (.int .i64)), none⟩,
    ⟨2, some 67, .faddr 6 0, none⟩,
    ⟨3, some 68, .ldL 67 124 (.c (.int .i64)), none⟩,
    ⟨4, some 69, .mx (.t 66) [.t 68], none⟩,
    ⟨5, some 70, .call 44 [.t 69] [.c (.int .i64), .c (.bool)], none⟩,
    ⟨6, some 64, .move (.t 70), none⟩,
    ⟨7, some 71, .ext 64 0, none⟩,
    ⟨8, some 72, .ext 64 1, none⟩,
    ⟨9, some 73, .faddr 6 1, none⟩,
    ⟨10, none, .stL 73 124 (.t 71) 1, none⟩]) (.seq (.region [⟨0, some 75, .faddr 1 3, none⟩,
    ⟨1, some 76, .ldL 75 122 (.c (.int .i64)), none⟩,
    ⟨2, some 77, .faddr 6 0, none⟩,
    ⟨3, some 78, .ldL 77 124 (.c (.int .i64)), none⟩,
    ⟨4, some 79, .mx (.t 76) [.t 78], none⟩,
    ⟨5, some 80, .call 44 [.t 79] [.c (.int .i64), .c (.bool)], none⟩,
    ⟨6, some 74, .move (.t 80), none⟩,
    ⟨7, some 81, .ext 74 0, none⟩,
    ⟨8, some 82, .ext 74 1, none⟩,
    ⟨9, some 83, .faddr 6 4, none⟩,
    ⟨10, none, .stL 83 124 (.t 81) 1, none⟩]) (.seq (.region [⟨0, some 85, .faddr 1 2, none⟩,
    ⟨1, some 86, .ldL 85 122 (.c (.int .i64)), none⟩,
    ⟨2, some 87, .faddr 6 1, none⟩,
    ⟨3, some 88, .ldL 87 124 (.c (.int .i64)), none⟩,
    ⟨4, some 89, .faddr 6 4, none⟩,
    ⟨5, some 90, .ldL 89 124 (.c (.int .i64)), none⟩,
    ⟨6, some 91, .mx (.t 88) [.t 90], none⟩,
    ⟨7, some 92, .bin .mul .i64 (.k (.c (.int .i64 2))) (.t 91), none⟩,
    ⟨8, some 93, .call 45 [.t 86, .t 92] [.c (.int .i64), .c (.bool)], none⟩,
    ⟨9, some 84, .move (.t 93), none⟩,
    ⟨10, some 94, .ext 84 0, none⟩,
    ⟨11, some 95, .ext 84 1, none⟩,
    ⟨12, some 96, .faddr 6 2, none⟩,
    ⟨13, none, .stL 96 124 (.t 94) 1, none⟩]) (.seq (.region [⟨0, some 98, .faddr 6 1, none⟩,
    ⟨1, some 99, .ldL 98 124 (.c (.int .i64)), none⟩,
    ⟨2, some 100, .faddr 6 0, none⟩,
    ⟨3, some 101, .ldL 100 124 (.c (.int .i64)), none⟩,
    ⟨4, some 102, .bin .quo .i64 (.t 99) (.t 101), none⟩,
    ⟨5, some 103, .call 46 [.t 102] [.c (.int .i64), .c (.bool)], none⟩,
    ⟨6, some 97, .move (.t 103), none⟩,
    ⟨7, some 104, .ext 97 0, none⟩,
    ⟨8, some 105, .ext 97 1, none⟩,
    ⟨9, some 106, .faddr 6 3, none⟩,
    ⟨10, none, .stL 106 124 (.t 104) 1, none⟩]) (.seq (.region [⟨0, some 107, .faddr 6 2, none⟩,
    ⟨1, some 108, .ldL 107 124 (.c (.int .i64)), none⟩,
    ⟨2, some 109, .faddr 6 3, none⟩,
    ⟨3, some 110, .ldL 109 124 (.c (.int .i64)), none⟩,
    ⟨4, some 111, .faddr 6 2, none⟩,
    ⟨5, some 112, .ldL 111 124 (.c (.int .i64)), none⟩,
    ⟨6, some 113, .bin .quo .i64 (.t 112) (.k (.c (.int .i64 2))), none⟩,
    ⟨7, some 114, .bin .mul .i64 (.t 110) (.t 113), none⟩,
    ⟨8, some 115, .bin .add .i64 (.t 108) (.t 114), none⟩,
    ⟨9, some 116, .faddr 6 6, none⟩,
    ⟨10, none, .stL 116 124 (.t 115) 1, none⟩]) (.seq (.seq (.region [⟨0, some 117, .faddr 6 6, none⟩,
    ⟨1, some 118, .ldL 117 124 (.c (.int .i64)), none⟩,
    ⟨2, some 119, .cmp .gtr .i64 (.t 118) (.k (.c (.int .i64 65536))), none⟩]) (.cond (.t 119) (.seq (.region [⟨0, some 120, .build [.int .i64 0, .int .i64 0, .int .i64 0, .int .i64 0, .int .i64 0, .int .i64 0, .int .i64 0, .int .i64 0] [], none⟩,
    ⟨1, none, .stL 2 123 (.t 120) 8, none⟩,
    ⟨2, some 3, .move (.k (.c (.int .i64 1))), none⟩]) .ret) .skip)) (.seq (.region [⟨0, some 121, .ldL 6 124 (.agg [.int .i64, .int .i64, .int .i64, .int .i64, .int .i64, .int .i64, .int .i64, .int .i64]), none⟩,
    ⟨1, none, .stL 2 123 (.t 121) 8, none⟩,
    ⟨2, some 3, .move (.k (.c (.int .i64 0))), none⟩]) .ret)))))))))
def hodmanref1_Of.c54 : DCode := (.seq (.seq (.region [⟨0, some 33, .faddr 1 4, none⟩,
    ⟨1, some 34, .ldL 33 122 (.c (.int .i64)), none⟩,
    ⟨2, some 35, .cmp .lss .i64 (.t 34) (.k (.c (.int .i64 0))), none⟩,
    ⟨3, some 36, .move (.t 35), none⟩,
    ⟨4, some 37, .faddr 1 4, some (36, false)⟩,
    ⟨5, some 38, .ldL 37 122 (.c (.int .i64)), some (36, false)⟩,
    ⟨6, some 39, .cmp .gtr .i64 (.t 38) (.k (.c (.int .i64 65536))), some (36, false)⟩,
    ⟨7, some 40, .pick (.t 36) (.k (.c (.bool true))) (.t 39), none⟩,
    ⟨8, some 41, .move (.t 40), none⟩,
    ⟨9, some 42, .faddr 1 5, some (41, false)⟩,
    ⟨10, some 43, .ldL 42 122 (.c (.int .i64)), some (41, false)⟩,
    ⟨11, some 44, .cmp .lss .i64 (.t 43) (.k (.c (.int .i64 0))), some (41, false)⟩,
    ⟨12, some 45, .pick (.t 41) (.k (.c (.bool true))) (.t 44), none⟩,
    ⟨13, some 46, .move (.t 45), none⟩,
    ⟨14, some 47, .faddr 1 5, some (46, false)⟩,
    ⟨15, some 48, .ldL 47 122 (.c (.int .i64)), some (46, false)⟩,
    ⟨16, some 49, .cmp .gtr .i64 (.t 48) (.k (.c (.int .i64 255))), some (46, false)⟩,
    ⟨17, some 50, .pick (.t 46) (.k (.c (.bool true))) (.t 49), none⟩]) (.cut [1, 2, 50, 122, 123] hodmanref1_Of.c27)) hodmanref1_Of.c53)
def hodmanref1_Of.d : DFn := { ntmps := 125, res := [.box 2 (some 8), .t 3], body := (.seq (.region [⟨0, some 1, .boxv 122 [7, 9, 11, 13, 33, 37, 42, 47, 52, 54, 58, 65, 75, 85] (.t 0) 6, none⟩,
    ⟨1, some 2, .boxz 123 [] [.int .i64 0, .int .i64 0, .int .i64 0, .int .i64 0, .int .i64 0, .int .i64 0, .int .i64 0, .int .i64 0], none⟩,
    ⟨2, some 3, .move (.k (.c (.int .i64 0))), none⟩]) (.seq (.region [⟨0, some 7, .faddr 1 0, none⟩,
    ⟨1, some 8, .ldL 7 122 (.c (.int .i64)), none⟩,
    ⟨2, some 9, .faddr 1 1, none⟩,
    ⟨3, some 10, .ldL 9 122 (.c (.int .i64)), none⟩,
    ⟨4, some 11, .faddr 1 2, none⟩,
    ⟨5, some 12, .ldL 11 122 (.c (.int .i64)), none⟩,
    ⟨6, some 13, .faddr 1 3, none⟩,
    ⟨7, some 14, .ldL 13 122 (.c (.int .i64)), none⟩,
    ⟨8, some 15, .bslice 4 1 [.int .i64 0, .int .i64 0, .int .i64 0, .int .i64 0] [(0, 1, .t 8), (1, 1, .t 10), (2, 1, .t 12), (3, 1, .t 14)], none⟩,
    ⟨9, some 4, .move (.t 15), none⟩]) (.seq (.seq (.region [⟨0, some 5, .move (.k (.c (.int .i64 0))), none⟩]) (.block 0 hodmanref1_Of.c19)) hodmanref1_Of.c54))) }
def hodmanref1_Of.k54 (M : Mach) (C : Call) : Kont := execC M.j C (M.ag C) hodmanref1_Of.c54 ({ exits := [], ret := retK hodmanref1_Of.d } : Env) (retK hodmanref1_Of.d)
def hodmanref1_Of.e20 (M : Mach) (C : Call) : Env := { exits := (0, (hodmanref1_Of.k54 M C)) :: (({ exits := [], ret := retK hodmanref1_Of.d } : Env)).exits, ret := (({ exits := [], ret := retK hodmanref1_Of.d } : Env)).ret }
def hodmanref1_Of.L19 (M : Mach) (C : Call) (l4i : Nat) (l4o : Nat) (l4n : Nat) (i5 : Int) (r122_0 : Int) (r122_1 : Int) (r122_2 : Int) (r122_3 : Int) (r122_4 : Int) (r122_5 : Int) (x123_0 : Int) (x123_1 : Int) (x123_2 : Int) (x123_3 : Int) (x123_4 : Int) (x123_5 : Int) (x123_6 : Int) (x123_7 : Int) (G : GH) : Option Res := M.ag C [1, 2, 4, 5, 122, 123] hodmanref1_Of.c18 (hodmanref1_Of.e20 M C) (hodmanref1_Of.k54 M C) [.und, .ref 122 0, .ref 123 0, .und, .v (.c (.sl 1 l4i l4o l4n)), .v (.c (.int .i64 i5)), .und, .und, .und, .und, .und, .und, .und, .und, .und, .und, .und, .und, .und, .und, .und, .und, .und, .und, .und, .und, .und, .und, .und, .und, .und, .und, .und, .und, .und, .und, .und, .und, .und, .und, .und, .und, .und, .und, .und, .und, .und, .und, .und, .und, .und, .und, .und, .und, .und, .und, .und, .und, .und, .und, .und, .und, .und, .und, .und, .und, .und, .und, .und, .und, .und, .und, .und, .und, .und, .und, .und, .und, .und, .und, .und, .und, .und, .und, .und, .und, .und, .und, .und, .und, .und, .und, .und, .und, .und, .und, .und, .und, .und, .und, .und, .und, .und, .und, .und, .und, .und, .und, .und, .und, .und, .und, .und, .und, .und, .und, .und, .und, .und, .und, .und, .und, .box [.int .i64 r122_0, .int .i64 r122_1, .int .i64 r122_2, .int .i64 r122_3, .int .i64 r122_4, .int .i64 r122_5], .box [.int .i64 x123_0, .int .i64 x123_1, .int .i64 x123_2, .int .i64 x123_3, .int .i64 x123_4, .int .i64 x123_5, .int .i64 x123_6, .int .i64 x123_7], .und] G
def hodmanref1_Of.k19 (M : Mach) (C : Call) : Kont := fun tm G => M.ag C [1, 2, 4, 5, 122, 123] hodmanref1_Of.c18 (hodmanref1_Of.e20 M C) (hodmanref1_Of.k54 M C) (restr [1, 2, 4, 5, 122, 123] 0 tm) G
def hodmanref1_Of.k16 (M : Mach) (C : Call) : Kont := execC M.j C (M.ag C) hodmanref1_Of.c16 (hodmanref1_Of.e20 M C) (hodmanref1_Of.k19 M C)
def hodmanref1_Of.e15 (M : Mach) (C : Call) : Env := { exits := (1, (hodmanref1_Of.k16 M C)) :: ((hodmanref1_Of.e20 M C)).exits, ret := ((hodmanref1_Of.e20 M C)).ret }
def hodmanref1_Of.J13 (M : Mach) (C : Call) (l4i : Nat) (l4o : Nat) (l4n : Nat) (i5 : Int) (t31 : Bool) (r122_0 : Int) (r122_1 : Int) (r122_2 : Int) (r122_3 : Int) (r122_4 : Int) (r122_5 : Int) (x123_0 : Int) (x123_1 : Int) (x123_2 : Int) (x123_3 : Int) (x123_4 : Int) (x123_5 : Int) (x123_6 : Int) (x123_7 : Int) (G : GH) : Option Res := M.j (execC M.j C (M.ag C) hodmanref1_Of.c13 (hodmanref1_Of.e15 M C) (hodmanref1_Of.k16 M C)) [.und, .ref 122 0, .ref 123 0, .und, .v (.c (.sl 1 l4i l4o l4n)), .v (.c (.int .i64 i5)), .und, .und, .und, .und, .und, .und, .und, .und, .und, .und, .und, .und, .und, .und, .und, .und, .und, .und, .und, .und, .und, .und, .und, .und, .und, .v (.c (.bool t31)), .und, .und, .und, .und, .und, .und, .und, .und, .und, .und, .und, .und, .und, .und, .und, .und, .und, .und, .und, .und, .und, .und, .und, .und, .und, .und, .und, .und, .und, .und, .und, .und, .und, .und, .und, .und, .und, .und, .und, .und, .und, .und, .und, .und, .und, .und, .und, .und, .und, .und, .und, .und, .und, .und, .und, .und, .und, .und, .und, .und, .und, .und, .und, .und, .und, .und, .und, .und, .und, .und, .und, .und, .und, .und, .und, .und, .und, .und, .und, .und, .und, .und, .und, .und, .und, .und, .und, .und, .und, .und, .box [.int .i64 r122_0, .int .i64 r122_1, .int .i64 r122_2, .int .i64 r122_3, .int .i64 r122_4, .int .i64 r122_5], .box [.int .i64 x123_0, .int .i64 x123_1, .int .i64 x123_2, .int .i64 x123_3, .int .i64 x123_4, .int .i64 x123_5, .int .i64 x123_6, .int .i64 x123_7], .und] G
def hodmanref1_Of.k53 (M : Mach) (C : Call) : Kont := execC M.j C (M.ag C) hodmanref1_Of.c53 ({ exits := [], ret := retK hodmanref1_Of.d } : Env) (retK hodmanref1_Of.d)
def hodmanref1_Of.J27 (M : Mach) (C : Call) (t50 : Bool) (r122_0 : Int) (r122_1 : Int) (r122_2 : Int) (r122_3 : Int) (r122_4 : Int) (r122_5 : Int) (x123_0 : Int) (x123_1 : Int) (x123_2 : Int) (x123_3 : Int) (x123_4 : Int) (x123_5 : Int) (x123_6 : Int) (x123_7 : Int) (G : GH) : Option Res := M.j (execC M.j C (M.ag C) hodmanref1_Of.c27 ({ exits := [], ret := retK hodmanref1_Of.d } : Env) (hodmanref1_Of.k53 M C)) [.und, .ref 122 0, .ref 123 0, .und, .und, .und, .und, .und, .und, .und, .und, .und, .und, .und, .und, .und, .und, .und, .und, .und, .und, .und, .und, .und, .und, .und, .und, .und, .und, .und, .und, .und, .und, .und, .und, .und, .und, .und, .und, .und, .und, .und, .und, .und, .und, .und, .und, .und, .und, .und, .v (.c (.bool t50)), .und, .und, .und, .und, .und, .und, .und, .und, .und, .und, .und, .und, .und, .und, .und, .und, .und, .und, .und, .und, .und, .und, .und, .und, .und, .und, .und, .und, .und, .und, .und, .und, .und, .und, .und, .und, .und, .und, .und, .und, .und, .und, .und, .und, .und, .und, .und, .und, .und, .und, .und, .und, .und, .und, .und, .und, .und, .und, .und, .und, .und, .und, .und, .und, .und, .und, .und, .und, .und, .und, .und, .box [.int .i64 r122_0, .int .i64 r122_1, .int .i64 r122_2, .int .i64 r122_3, .int .i64 r122_4, .int .i64 r122_5], .box [.int .i64 x123_0, .int .i64 x123_1, .int .i64 x123_2, .int .i64 x123_3, .int .i64 x123_4, .int .i64 x123_5, .int .i64 x123_6, .int .i64 x123_7], .und] G
theorem hodmanref1_Of.L19_eq (M : Mach) (C : Call) (l4i : Nat) (l4o : Nat) (l4n : Nat) (i5 : Int) (r122_0 : Int) (r122_1 : Int) (r122_2 : Int) (r122_3 : Int) (r122_4 : Int) (r122_5 : Int) (x123_0 : Int) (x123_1 : Int) (x123_2 : Int) (x123_3 : Int) (x123_4 : Int) (x123_5 : Int) (x123_6 : Int) (x123_7 : Int) (G : GH) : hodmanref1_Of.L19 M C l4i l4o l4n i5 r122_0 r122_1 r122_2 r122_3 r122_4 r122_5 x123_0 x123_1 x123_2 x123_3 x123_4 x123_5 x123_6 x123_7 G = (bif decide (i5 < 4) then guardK (decide (0 ≤ i5 ∧ i5 < ((l4n : Nat) : Int))) (((G.ld l4i (l4o + Int.toNat i5 * 1)).bind (Cell.asI .i64)).bind fun qx_2 => bif decide (qx_2 < 1) then hodmanref1_Of.J13 M C l4i l4o l4n i5 true r122_0 r122_1 r122_2 r122_3 r122_4 r122_5 x123_0 x123_1 x123_2 x123_3 x123_4 x123_5 x123_6 x123_7 G else guardK (decide (0 ≤ i5 ∧ i5 < ((l4n : Nat) : Int))) (((G.ld l4i (l4o + Int.toNat i5 * 1)).bind (Cell.asI .i64)).bind fun qx_3 => hodmanref1_Of.J13 M C l4i l4o l4n i5 (decide (qx_3 > 65536)) r122_0 r122_1 r122_2 r122_3 r122_4 r122_5 x123_0 x123_1 x123_2 x123_3 x123_4 x123_5 x123_6 x123_7 G)) else bif decide (r122_4 < 0) then hodmanref1_Of.J27 M C true r122_0 r122_1 r122_2 r122_3 r122_4 r122_5 x123_0 x123_1 x123_2 x123_3 x123_4 x123_5 x123_6 x123_7 G else bif decide (r122_4 > 65536) then hodmanref1_Of.J27 M C true r122_0 r122_1 r122_2 r122_3 r122_4 r122_5 x123_0 x123_1 x123_2 x123_3 x123_4 x123_5 x123_6 x123_7 G else bif decide (r122_5 < 0) then hodmanref1_Of.J27 M C true r122_0 r122_1 r122_2 r122_3 r122_4 r122_5 x123_0 x123_1 x123_2 x123_3 x123_4 x123_5 x123_6 x123_7 G else hodmanref1_Of.J27 M C (decide (r122_5 > 255)) r122_0 r122_1 r122_2 r122_3 r122_4 r122_5 x123_0 x123_1 x123_2 x123_3 x123_4 x123_5 x123_6 x123_7 G) := (M.hs _ _ _ _ _ _ _).trans (by kernel_rfl)
theorem hodmanref1_Of.J13_eq (M : Mach) (C : Call) (l4i : Nat) (l4o : Nat) (l4n : Nat) (i5 : Int) (t31 : Bool) (r122_0 : Int) (r122_1 : Int) (r122_2 : Int) (r122_3 : Int) (r122_4 : Int) (r122_5 : Int) (x123_0 : Int) (x123_1 : Int) (x123_2 : Int) (x123_3 : Int) (x123_4 : Int) (x123_5 : Int) (x123_6 : Int) (x123_7 : Int) (G : GH) : hodmanref1_Of.J13 M C l4i l4o l4n i5 t31 r122_0 r122_1 r122_2 r122_3 r122_4 r122_5 x123_0 x123_1 x123_2 x123_3 x123_4 x123_5 x123_6 x123_7 G = (bif t31 then some ([.agg [.int .i64 0, .int .i64 0, .int .i64 0, .int .i64 0, .int .i64 0, .int .i64 0, .int .i64 0, .int .i64 0], .c (.int .i64 1)], G) else hodmanref1_Of.L19 M C l4i l4o l4n (IntKind.i64.wrap (i5 + 1)) r122_0 r122_1 r122_2 r122_3 r122_4 r122_5 x123_0 x123_1 x123_2 x123_3 x123_4 x123_5 x123_6 x123_7 G) := (M.hj _ _ _).trans (by kernel_rfl)
theorem hodmanref1_Of.J27_eq (M : Mach) (C : Call) (t50 : Bool) (r122_0 : Int) (r122_1 : Int) (r122_2 : Int) (r122_3 : Int) (r122_4 : Int) (r122_5 : Int) (x123_0 : Int) (x123_1 : Int) (x123_2 : Int) (x123_3 : Int) (x123_4 : Int) (x123_5 : Int) (x123_6 : Int) (x123_7 : Int) (G : GH) : hodmanref1_Of.J27 M C t50 r122_0 r122_1 r122_2 r122_3 r122_4 r122_5 x123_0 x123_1 x123_2 x123_3 x123_4 x123_5 x123_6 x123_7 G = (bif t50 then some ([.agg [.int .i64 0, .int .i64 0, .int .i64 0, .int .i64 0, .int .i64 0, .int .i64 0, .int .i64 0, .int .i64 0], .c (.int .i64 1)], G) else (C hodmanref1_Up.id [.c (.int .i64 r122_0)] G).bind fun qr_4 => (((qr_4.1[0]?).bind V1.c?).bind (Cell.asI .i64)).bind fun qx_5 => (((qr_4.1[1]?).bind V1.c?).bind Cell.asB).bind fun qb_6 => (C hodmanref1_Up.id [.c (.int .i64 (mx2 r122_1 qx_5))] qr_4.2).bind fun qr_7 => (((qr_7.1[0]?).bind V1.c?).bind (Cell.asI .i64)).bind fun qx_8 => (((qr_7.1[1]?).bind V1.c?).bind Cell.asB).bind fun qb_9 => (C hodmanref1_Up.id [.c (.int .i64 (mx2 r122_3 qx_5))] qr_7.2).bind fun qr_10 => (((qr_10.1[0]?).bind V1.c?).bind (Cell.asI .i64)).bind fun qx_11 => (((qr_10.1[1]?).bind V1.c?).bind Cell.asB).bind fun qb_12 => (C hodmanref1_Round.id [.c (.int .i64 r122_2), .c (.int .i64 (IntKind.i64.wrap (2 * (mx2 qx_8 qx_11))))] qr_10.2).bind fun qr_13 => (((qr_13.1[0]?).bind V1.c?).bind (Cell.asI .i64)).bind fun qx_14 => (((qr_13.1[1]?).bind V1.c?).bind Cell.asB).bind fun qb_15 => (binD .quo .i64 qx_8 qx_5).bind fun qx_16 => (C hodmanref1_Log.id [.c (.int .i64 qx_16)] qr_13.2).bind fun qr_17 => (((qr_17.1[0]?).bind V1.c?).bind (Cell.asI .i64)).bind fun qx_18 => (((qr_17.1[1]?).bind V1.c?).bind Cell.asB).bind fun qb_19 => bif decide (IntKind.i64.wrap (qx_14 + (IntKind.i64.wrap (qx_18 * (IntKind.i64.wrap (Int.tdiv qx_14 2))))) > 65536) then some ([.agg [.int .i64 0, .int .i64 0, .int .i64 0, .int .i64 0, .int .i64 0, .int .i64 0, .int .i64 0, .int .i64 0], .c (.int .i64 1)], qr_17.2) else some ([.agg [.int .i64 qx_5, .int .i64 qx_8, .int .i64 qx_14, .int .i64 qx_18, .int .i64 qx_11, .int .i64 r122_4, .int .i64 (IntKind.i64.wrap (qx_14 + (IntKind.i64.wrap (qx_18 * (IntKind.i64.wrap (Int.tdiv qx_14 2)))))), .int .i64 r122_5], .c (.int .i64 0)], qr_17.2)) := (M.hj _ _ _).trans (by kernel_rfl)
def hodmanref1_Of.f (M : Mach) (C : Call) (r0_0 : Int) (r0_1 : Int) (r0_2 : Int) (r0_3 : Int) (r0_4 : Int) (r0_5 : Int) (G : GH) : Option Res := let qG_1 := G.alloc (.row [.int .i64 r0_0, .int .i64 r0_1, .int .i64 r0_2, .int .i64 r0_3] false); hodmanref1_Of.L19 M C G.next 0 4 0 r0_0 r0_1 r0_2 r0_3 r0_4 r0_5 0 0 0 0 0 0 0 0 qG_1
theorem hodmanref1_Of.eq (M : Mach) (C : Call) (r0_0 : Int) (r0_1 : Int) (r0_2 : Int) (r0_3 : Int) (r0_4 : Int) (r0_5 : Int) (G : GH) : runF M C hodmanref1_Of.d [.agg [.int .i64 r0_0, .int .i64 r0_1, .int .i64 r0_2, .int .i64 r0_3, .int .i64 r0_4, .int .i64 r0_5]] G = hodmanref1_Of.f M C r0_0 r0_1 r0_2 r0_3 r0_4 r0_5 G := by kernel_rfl

/- 54 (*hodman/tight.writer).frees -/
def tight_writer_frees.c22 : DCode := (.region [⟨0, some 64, .bin .add .i64 (.t 24) (.k (.c (.int .i64 1))), none⟩,
    ⟨1, some 24, .move (.t 64), none⟩])
def tight_writer_frees.c25 : DCode := (.seq (.region [⟨0, some 25, .cmp .lss .i64 (.t 24) (.t 23), none⟩]) (.seq (.cond (.t 25) .skip (.exit 0)) (.seq (.block 1 (.seq (.region [⟨0, some 26, .iaddr (.t 22) (.t 24) 2, none⟩,
    ⟨1, some 27, .ldG 26 (.agg [.int .i64, .int .i64]), none⟩,
    ⟨2, some 8, .boxz 69 [29, 42, 53] [.int .i64 0, .int .i64 0], none⟩,
    ⟨3, none, .stL 8 69 (.t 27) 2, none⟩]) (.seq (.region [⟨0, some 28, .move (.t 1), none⟩,
    ⟨1, some 29, .faddr 8 0, none⟩,
    ⟨2, some 30, .ldL 29 69 (.c (.int .i64)), none⟩,
    ⟨3, some 31, .move (.t 4), none⟩,
    ⟨4, some 32, .bin .quo .i64 (.t 30) (.t 31), none⟩,
    ⟨5, some 33, .build [.int .i64 0, .int .i64 0] [(0, 1, .t 28), (1, 1, .t 32)], none⟩,
    ⟨6, some 9, .boxz 70 [] [.int .i64 0, .int .i64 0], none⟩,
    ⟨7, none, .stL 9 70 (.t 33) 2, none⟩]) (.seq (.region [⟨0, some 34, .move (.t 5), none⟩,
    ⟨1, some 35, .ldL 9 70 (.agg [.int .i64, .int .i64]), none⟩,
    ⟨2, some 36, .lkup (.agg [.int .i64, .int .i64]) (.t 34) (.t 35) (.c (.bool false)) (.c (.bool)) false, none⟩]) (.cond (.t 36) (.seq (.region [⟨0, some 37, .move (.t 0), none⟩,
    ⟨1, some 38, .move (.t 0), none⟩,
    ⟨2, some 39, .nilck (.t 38), none⟩,
    ⟨3, some 40, .faddr 39 8, none⟩,
    ⟨4, some 41, .ldG 40 (.c (.sl 6)), none⟩,
    ⟨5, some 42, .faddr 8 0, none⟩,
    ⟨6, some 43, .ldL 42 69 (.c (.int .i64)), none⟩,
    ⟨7, some 44, .build [.int .i64 0, .int .i64 0, .int .i64 0, .int .i64 0, .int .i64 0, .int .u8 0] [(0, 1, .k (.c (.int .i64 5))), (1, 1, .t 43)], none⟩,
    ⟨8, some 45, .bslice 1 6 [.int .i64 0, .int .i64 0, .int .i64 0, .int .i64 0, .int .i64 0, .int .u8 0] [(0, 6, .t 44)], none⟩,
    ⟨9, some 46, .app (.t 41) (.t 45) 6 48, none⟩,
    ⟨10, some 47, .nilck (.t 37), none⟩,
    ⟨11, some 48, .faddr 47 8, none⟩,
    ⟨12, none, .stG 48 (.t 46) 1, none⟩]) (.region [⟨0, some 49, .move (.t 0), none⟩,
    ⟨1, some 50, .nilck (.t 49), none⟩,
    ⟨2, some 51, .faddr 50 10, none⟩,
    ⟨3, some 52, .ldG 51 (.c (.int .i64)), none⟩,
    ⟨4, some 53, .faddr 8 1, none⟩,
    ⟨5, some 54, .ldL 53 69 (.c (.int .i64)), none⟩,
    ⟨6, some 55, .bin .sub .i64 (.t 52) (.t 54), none⟩,
    ⟨7, some 56, .nilck (.t 49), none⟩,
    ⟨8, some 57, .faddr 56 10, none⟩,
    ⟨9, none, .stG 57 (.t 55) 1, none⟩])) (.seq (.region [⟨0, some 58, .move (.t 5), none⟩,
    ⟨1, some 59, .ldL 9 70 (.agg [.int .i64, .int .i64]), none⟩,
    ⟨2, none, .mupd (.agg [.int .i64, .int .i64]) (.t 58) (.t 59) (.k (.c (.bool true))), none⟩]) (.region [⟨0, some 60, .move (.t 6), none⟩,
    ⟨1, some 61, .ldL 8 69 (.agg [.int .i64, .int .i64]), none⟩,
    ⟨2, some 62, .bslice 1 2 [.int .i64 0, .int .i64 0] [(0, 2, .t 61)], none⟩,
    ⟨3, some 63, .app (.t 60) (.t 62) 2 16, none⟩,
    ⟨4, some 6, .move (.t 63), none⟩]))))))) (.cut [0, 1, 4, 5, 6, 22, 23, 24] tight_writer_frees.c22))))
def tight_writer_frees.c26 : DCode := (.loop [0, 1, 4, 5, 6, 22, 23, 24] tight_writer_frees.c25)
def tight_writer_frees.c29 : DCode := (.region [⟨0, some 65, .move (.t 0), none⟩,
    ⟨1, some 66, .move (.t 6), none⟩,
    ⟨2, some 67, .nilck (.t 65), none⟩,
    ⟨3, some 68, .faddr 67 9, none⟩,
    ⟨4, none, .stG 68 (.t 66) 1, none⟩])
def tight_writer_frees.d : DFn := { ntmps := 71, res := [], body := (.seq (.region [⟨0, some 10, .move (.t 0), none⟩,
    ⟨1, some 11, .nilck (.t 10), none⟩,
    ⟨2, some 12, .faddr 11 0, none⟩,
    ⟨3, some 13, .faddr 12 0, none⟩,
    ⟨4, some 14, .ldG 13 (.c (.int .i64)), none⟩,
    ⟨5, some 15, .move (.t 1), none⟩,
    ⟨6, some 16, .conv .u64 (.t 15), none⟩,
    ⟨7, some 17, .bin .shl .i64 (.t 14) (.t 16), none⟩,
    ⟨8, some 4, .move (.t 17), none⟩]) (.seq (.region [⟨0, some 18, .mkmap (.agg [.int .i64, .int .i64]), none⟩,
    ⟨1, some 5, .move (.t 18), none⟩]) (.seq (.region [⟨0, some 6, .move (.k (.c (.sl 2 0 0 0))), none⟩]) (.seq (.seq (.region [⟨0, some 19, .move (.t 0), none⟩,
    ⟨1, some 20, .nilck (.t 19), none⟩,
    ⟨2, some 21, .faddr 20 9, none⟩,
    ⟨3, some 22, .ldG 21 (.c (.sl 2)), none⟩,
    ⟨4, some 23, .len (.t 22), none⟩,
    ⟨5, some 24, .move (.k (.c (.int .i64 0))), none⟩]) (.block 0 tight_writer_frees.c26)) tight_writer_frees.c29)))) }
def tight_writer_frees.k29 (M : Mach) (C : Call) : Kont := execC M.j C (M.ag C) tight_writer_frees.c29 ({ exits := [], ret := retK tight_writer_frees.d } : Env) (retK tight_writer_frees.d)
def tight_writer_frees.e27 (M : Mach) (C : Call) : Env := { exits := (0, (tight_writer_frees.k29 M C)) :: (({ exits := [], ret := retK tight_writer_frees.d } : Env)).exits, ret := (({ exits := [], ret := retK tight_writer_frees.d } : Env)).ret }
def tight_writer_frees.L26 (M : Mach) (C : Call) (w0i : Nat) (w0o : Nat) (k1 : Int) (size4 : Int) (first5 : Nat) (rest6i : Nat) (rest6o : Nat) (rest6n : Nat) (t22i : Nat) (t22o : Nat) (t22n : Nat) (t23 : Int) (t24 : Int) (G : GH) : Option Res := M.ag C [0, 1, 4, 5, 6, 22, 23, 24] tight_writer_frees.c25 (tight_writer_frees.e27 M C) (tight_writer_frees.k29 M C) [.v (.c (.ptr w0i w0o)), .v (.c (.int .i64 k1)), .und, .und, .v (.c (.int .i64 size4)), .v (.c (.map first5)), .v (.c (.sl 2 rest6i rest6o rest6n)), .und, .und, .und, .und, .und, .und, .und, .und, .und, .und, .und, .und, .und, .und, .und, .v (.c (.sl 2 t22i t22o t22n)), .v (.c (.int .i64 t23)), .v (.c (.int .i64 t24)), .und, .und, .und, .und, .und, .und, .und, .und, .und, .und, .und, .und, .und, .und, .und, .und, .und, .und, .und, .und, .und, .und, .und, .und, .und, .und, .und, .und, .und, .und, .und, .und, .und, .und, .und, .und, .und, .und, .und, .und, .und, .und, .und, .und, .und, .und] G
def tight_writer_frees.k26 (M : Mach) (C : Call) : Kont := fun tm G => M.ag C [0, 1, 4, 5, 6, 22, 23, 24] tight_writer_frees.c25 (tight_writer_frees.e27 M C) (tight_writer_frees.k29 M C) (restr [0, 1, 4, 5, 6, 22, 23, 24] 0 tm) G
def tight_writer_frees.J22 (M : Mach) (C : Call) (w0i : Nat) (w0o : Nat) (k1 : Int) (size4 : Int) (first5 : Nat) (rest6i : Nat) (rest6o : Nat) (rest6n : Nat) (t22i : Nat) (t22o : Nat) (t22n : Nat) (t23 : Int) (t24 : Int) (G : GH) : Option Res := M.j (execC M.j C (M.ag C) tight_writer_frees.c22 (tight_writer_frees.e27 M C) (tight_writer_frees.k26 M C)) [.v (.c (.ptr w0i w0o)), .v (.c (.int .i64 k1)), .und, .und, .v (.c (.int .i64 size4)), .v (.c (.map first5)), .v (.c (.sl 2 rest6i rest6o rest6n)), .und, .und, .und, .und, .und, .und, .und, .und, .und, .und, .und, .und, .und, .und, .und, .v (.c (.sl 2 t22i t22o t22n)), .v (.c (.int .i64 t23)), .v (.c (.int .i64 t24)), .und, .und, .und, .und, .und, .und, .und, .und, .und, .und, .und, .und, .und, .und, .und, .und, .und, .und, .und, .und, .und, .und, .und, .und, .und, .und, .und, .und, .und, .und, .und, .und, .und, .und, .und, .und, .und, .und, .und, .und, .und, .und, .und, .und, .und, .und] G
theorem tight_writer_frees.L26_eq (M : Mach) (C : Call) (w0i : Nat) (w0o : Nat) (k1 : Int) (size4 : Int) (first5 : Nat) (rest6i : Nat) (rest6o : Nat) (rest6n : Nat) (t22i : Nat) (t22o : Nat) (t22n : Nat) (t23 : Int) (t24 : Int) (G : GH) : tight_writer_frees.L26 M C w0i w0o k1 size4 first5 rest6i rest6o rest6n t22i t22o t22n t23 t24 G = (bif decide (t24 < t23) then guardK (decide (0 ≤ t24 ∧ t24 < ((t22n : Nat) : Int))) (((G.ld t22i ((t22o + Int.toNat t24 * 2) + 0)).bind (Cell.asI .i64)).bind fun qx_5 => ((G.ld t22i ((t22o + Int.toNat t24 * 2) + 1)).bind (Cell.asI .i64)).bind fun qx_6 => (binD .quo .i64 qx_5 size4).bind fun qx_7 => (G.ents0 (.agg [.int .i64, .int .i64]) first5).bind fun qes_8 => ((((some ((mapGet qes_8 (.agg [.int .i64 k1, .int .i64 qx_7])).getD (.c (.bool false))))).bind V1.c?).bind Cell.asB).bind fun qb_9 => bif qb_9 then guardK (!Nat.beq w0i 0) (((G.ld w0i (w0o + 8)).bind (Cell.asS 6)).bind fun qs_10 => let qG_11 := G.alloc (.row [.int .i64 5, .int .i64 qx_5, .int .i64 0, .int .i64 0, .int .i64 0, .int .u8 0] false); (if 1 = 0 then some [] else qG_11.lds G.next 0 (1 * 6)).bind fun qnew_12 => guardK (decide (qs_10.2.2 + 1 ≤ most)) ((qG_11.app qs_10.1 qs_10.2.1 qs_10.2.2 6 1 qnew_12).bind fun qp_13 => guardK (!Nat.beq w0i 0) ((qp_13.2.2.sts w0i (w0o + 8) [.sl 6 qp_13.1 qp_13.2.1 (qs_10.2.2 + 1)]).bind fun qG_14 => guardK (!Nat.beq w0i 0) (((qG_14.ld w0i (w0o + 10)).bind (Cell.asI .i64)).bind fun qx_15 => guardK (!Nat.beq w0i 0) ((qG_14.sts w0i (w0o + 10) [.int .i64 (IntKind.i64.wrap (qx_15 - qx_6))]).bind fun qG_16 => tight_writer_frees.J22 M C w0i w0o k1 size4 first5 rest6i rest6o rest6n t22i t22o t22n t23 t24 qG_16))))) else (G.ents (.agg [.int .i64, .int .i64]) first5).bind fun qes_17 => let qG_18 := G.set first5 (some (.map (.agg [.int .i64, .int .i64]) (mapPut qes_17 (.agg [.int .i64 k1, .int .i64 qx_7]) (.c (.bool true))))); let qG_19 := qG_18.alloc (.row [.int .i64 qx_5, .int .i64 qx_6] false); (if 1 = 0 then some [] else qG_19.lds qG_18.next 0 (1 * 2)).bind fun qnew_20 => guardK (decide (rest6n + 1 ≤ most)) ((qG_19.app rest6i rest6o rest6n 2 1 qnew_20).bind fun qp_21 => tight_writer_frees.J22 M C w0i w0o k1 size4 first5 qp_21.1 qp_21.2.1 (rest6n + 1) t22i t22o t22n t23 t24 qp_21.2.2)) else guardK (!Nat.beq w0i 0) ((G.sts w0i (w0o + 9) [.sl 2 rest6i rest6o rest6n]).bind fun qG_22 => some ([], qG_22))) := (M.hs _ _ _ _ _ _ _).trans (by kernel_rfl)
theorem tight_writer_frees.J22_eq (M : Mach) (C : Call) (w0i : Nat) (w0o : Nat) (k1 : Int) (size4 : Int) (first5 : Nat) (rest6i : Nat) (rest6o : Nat) (rest6n : Nat) (t22i : Nat) (t22o : Nat) (t22n : Nat) (t23 : Int) (t24 : Int) (G : GH) : tight_writer_frees.J22 M C w0i w0o k1 size4 first5 rest6i rest6o rest6n t22i t22o t22n t23 t24 G = (tight_writer_frees.L26 M C w0i w0o k1 size4 first5 rest6i rest6o rest6n t22i t22o t22n t23 (IntKind.i64.wrap (t24 + 1)) G) := (M.hj _ _ _).trans (by kernel_rfl)
def tight_writer_frees.f (M : Mach) (C : Call) (w0i : Nat) (w0o : Nat) (k1 : Int) (G : GH) : Option Res := guardK (!Nat.beq w0i 0) (((G.ld w0i ((w0o + 0) + 0)).bind (Cell.asI .i64)).bind fun qx_1 => (binD .shl .i64 qx_1 (IntKind.u64.wrap k1)).bind fun qx_2 => let qG_3 := G.alloc (.map (.agg [.int .i64, .int .i64]) []); guardK (!Nat.beq w0i 0) (((qG_3.ld w0i (w0o + 9)).bind (Cell.asS 2)).bind fun qs_4 => tight_writer_frees.L26 M C w0i w0o k1 qx_2 G.next 0 0 0 qs_4.1 qs_4.2.1 qs_4.2.2 ((qs_4.2.2 : Nat) : Int) 0 qG_3))
theorem tight_writer_frees.eq (M : Mach) (C : Call) (w0i : Nat) (w0o : Nat) (k1 : Int) (G : GH) : runF M C tight_writer_frees.d [.c (.ptr w0i w0o), .c (.int .i64 k1)] G = tight_writer_frees.f M C w0i w0o k1 G := by kernel_rfl

/- 55 (*hodman/tight.writer).fills -/
def tight_writer_fills.c12 : DCode := (.seq (.seq (.region [⟨0, some 21, .move (.t 0), none⟩,
    ⟨1, some 22, .nilck (.t 21), none⟩,
    ⟨2, some 23, .faddr 22 10, none⟩,
    ⟨3, some 24, .ldG 23 (.c (.int .i64)), none⟩,
    ⟨4, some 25, .move (.t 0), none⟩,
    ⟨5, some 26, .nilck (.t 25), none⟩,
    ⟨6, some 27, .faddr 26 0, none⟩,
    ⟨7, some 28, .faddr 27 2, none⟩,
    ⟨8, some 29, .ldG 28 (.c (.int .i64)), none⟩,
    ⟨9, some 30, .move (.t 4), none⟩,
    ⟨10, some 31, .bin .sub .i64 (.t 29) (.t 30), none⟩,
    ⟨11, some 32, .cmp .leq .i64 (.t 24) (.t 31), none⟩]) (.cond (.t 32) .skip (.exit 0))) (.block 1 (.seq (.region [⟨0, some 33, .move (.t 0), none⟩,
    ⟨1, some 34, .move (.t 0), none⟩,
    ⟨2, some 35, .nilck (.t 34), none⟩,
    ⟨3, some 36, .faddr 35 8, none⟩,
    ⟨4, some 37, .ldG 36 (.c (.sl 6)), none⟩,
    ⟨5, some 38, .move (.t 4), none⟩,
    ⟨6, some 39, .build [.int .i64 0, .int .i64 0, .int .i64 0, .int .i64 0, .int .i64 0, .int .u8 0] [(0, 1, .k (.c (.int .i64 1))), (2, 1, .t 38)], none⟩,
    ⟨7, some 40, .bslice 1 6 [.int .i64 0, .int .i64 0, .int .i64 0, .int .i64 0, .int .i64 0, .int .u8 0] [(0, 6, .t 39)], none⟩,
    ⟨8, some 41, .app (.t 37) (.t 40) 6 48, none⟩,
    ⟨9, some 42, .nilck (.t 33), none⟩,
    ⟨10, some 43, .faddr 42 8, none⟩,
    ⟨11, none, .stG 43 (.t 41) 1, none⟩]) (.seq (.region [⟨0, some 44, .move (.t 0), none⟩,
    ⟨1, some 45, .move (.t 0), none⟩,
    ⟨2, some 46, .nilck (.t 45), none⟩,
    ⟨3, some 47, .faddr 46 9, none⟩,
    ⟨4, some 48, .ldG 47 (.c (.sl 2)), none⟩,
    ⟨5, some 49, .move (.t 5), none⟩,
    ⟨6, some 50, .move (.t 4), none⟩,
    ⟨7, some 51, .build [.int .i64 0, .int .i64 0] [(0, 1, .t 49), (1, 1, .t 50)], none⟩,
    ⟨8, some 52, .bslice 1 2 [.int .i64 0, .int .i64 0] [(0, 2, .t 51)], none⟩,
    ⟨9, some 53, .app (.t 48) (.t 52) 2 16, none⟩,
    ⟨10, some 54, .nilck (.t 44), none⟩,
    ⟨11, some 55, .faddr 54 9, none⟩,
    ⟨12, none, .stG 55 (.t 53) 1, none⟩]) (.region [⟨0, some 56, .move (.t 0), none⟩,
    ⟨1, some 57, .move (.t 0), none⟩,
    ⟨2, some 58, .nilck (.t 57), none⟩,
    ⟨3, some 59, .faddr 58 10, none⟩,
    ⟨4, some 60, .ldG 59 (.c (.int .i64)), none⟩,
    ⟨5, some 61, .move (.t 4), none⟩,
    ⟨6, some 62, .bin .add .i64 (.t 60) (.t 61), none⟩,
    ⟨7, some 63, .move (.t 5), none⟩,
    ⟨8, some 64, .move (.t 4), none⟩,
    ⟨9, some 65, .bin .add .i64 (.t 63) (.t 64), none⟩,
    ⟨10, some 66, .nilck (.t 56), none⟩,
    ⟨11, some 67, .faddr 66 10, none⟩,
    ⟨12, none, .stG 67 (.t 62) 1, none⟩,
    ⟨13, some 5, .move (.t 65), none⟩])))))
def tight_writer_fills.c15 : DCode := (.region [⟨0, some 68, .move (.t 0), none⟩,
    ⟨1, some 69, .move (.t 0), none⟩,
    ⟨2, some 70, .nilck (.t 69), none⟩,
    ⟨3, some 71, .faddr 70 11, none⟩,
    ⟨4, some 72, .ldG 71 (.c (.sl 1)), none⟩,
    ⟨5, some 73, .move (.t 0), none⟩,
    ⟨6, some 74, .nilck (.t 73), none⟩,
    ⟨7, some 75, .faddr 74 8, none⟩,
    ⟨8, some 76, .ldG 75 (.c (.sl 6)), none⟩,
    ⟨9, some 77, .len (.t 76), none⟩,
    ⟨10, some 78, .bslice 1 1 [.int .i64 0] [(0, 1, .t 77)], none⟩,
    ⟨11, some 79, .app (.t 72) (.t 78) 1 8, none⟩,
    ⟨12, some 80, .nilck (.t 68), none⟩,
    ⟨13, some 81, .faddr 80 11, none⟩,
    ⟨14, none, .stG 81 (.t 79) 1, none⟩])
def tight_writer_fills.d : DFn := { ntmps := 82, res := [], body := (.seq (.region [⟨0, some 6, .move (.t 0), none⟩,
    ⟨1, some 7, .nilck (.t 6), none⟩,
    ⟨2, some 8, .faddr 7 0, none⟩,
    ⟨3, some 9, .faddr 8 0, none⟩,
    ⟨4, some 10, .ldG 9 (.c (.int .i64)), none⟩,
    ⟨5, some 11, .move (.t 1), none⟩,
    ⟨6, some 12, .conv .u64 (.t 11), none⟩,
    ⟨7, some 13, .bin .shl .i64 (.t 10) (.t 12), none⟩,
    ⟨8, some 14, .move (.t 0), none⟩,
    ⟨9, some 15, .nilck (.t 14), none⟩,
    ⟨10, some 16, .faddr 15 0, none⟩,
    ⟨11, some 17, .ldG 16 (.agg [.int .i64, .int .i64, .int .i64, .int .i64, .int .i64, .int .i64, .int .i64, .int .i64]), none⟩,
    ⟨12, some 18, .move (.t 1), none⟩,
    ⟨13, some 19, .bin .sub .i64 (.t 18) (.k (.c (.int .i64 1))), none⟩,
    ⟨14, some 20, .call 50 [.t 17, .t 19] [.c (.int .i64)], none⟩,
    ⟨9999, none, .reG 10 9 (.c (.int .i64)), none⟩,
    ⟨15, some 4, .move (.t 13), none⟩,
    ⟨16, some 5, .move (.t 20), none⟩]) (.seq (.block 0 (.loop [0, 4, 5] tight_writer_fills.c12)) tight_writer_fills.c15)) }
def tight_writer_fills.k15 (M : Mach) (C : Call) : Kont := execC M.j C (M.ag C) tight_writer_fills.c15 ({ exits := [], ret := retK tight_writer_fills.d } : Env) (retK tight_writer_fills.d)
def tight_writer_fills.e14 (M : Mach) (C : Call) : Env := { exits := (0, (tight_writer_fills.k15 M C)) :: (({ exits := [], ret := retK tight_writer_fills.d } : Env)).exits, ret := (({ exits := [], ret := retK tight_writer_fills.d } : Env)).ret }
def tight_writer_fills.L13 (M : Mach) (C : Call) (w0i : Nat) (w0o : Nat) (size4 : Int) (at5 : Int) (G : GH) : Option Res := M.ag C [0, 4, 5] tight_writer_fills.c12 (tight_writer_fills.e14 M C) (tight_writer_fills.k15 M C) [.v (.c (.ptr w0i w0o)), .und, .und, .und, .v (.c (.int .i64 size4)), .v (.c (.int .i64 at5)), .und, .und, .und, .und, .und, .und, .und, .und, .und, .und, .und, .und, .und, .und, .und, .und, .und, .und, .und, .und, .und, .und, .und, .und, .und, .und, .und, .und, .und, .und, .und, .und, .und, .und, .und, .und, .und, .und, .und, .und, .und, .und, .und, .und, .und, .und, .und, .und, .und, .und, .und, .und, .und, .und, .und, .und, .und, .und, .und, .und, .und, .und, .und, .und, .und, .und, .und, .und, .und, .und, .und, .und, .und, .und, .und, .und] G
theorem tight_writer_fills.L13_eq (M : Mach) (C : Call) (w0i : Nat) (w0o : Nat) (size4 : Int) (at5 : Int) (G : GH) : tight_writer_fills.L13 M C w0i w0o size4 at5 G = (guardK (!Nat.beq w0i 0) (((G.ld w0i (w0o + 10)).bind (Cell.asI .i64)).bind fun qx_14 => guardK (!Nat.beq w0i 0) (((G.ld w0i ((w0o + 0) + 2)).bind (Cell.asI .i64)).bind fun qx_15 => bif decide (qx_14 ≤ IntKind.i64.wrap (qx_15 - size4)) then guardK (!Nat.beq w0i 0) (((G.ld w0i (w0o + 8)).bind (Cell.asS 6)).bind fun qs_16 => let qG_17 := G.alloc (.row [.int .i64 1, .int .i64 0, .int .i64 size4, .int .i64 0, .int .i64 0, .int .u8 0] false); (if 1 = 0 then some [] else qG_17.lds G.next 0 (1 * 6)).bind fun qnew_18 => guardK (decide (qs_16.2.2 + 1 ≤ most)) ((qG_17.app qs_16.1 qs_16.2.1 qs_16.2.2 6 1 qnew_18).bind fun qp_19 => guardK (!Nat.beq w0i 0) ((qp_19.2.2.sts w0i (w0o + 8) [.sl 6 qp_19.1 qp_19.2.1 (qs_16.2.2 + 1)]).bind fun qG_20 => guardK (!Nat.beq w0i 0) (((qG_20.ld w0i (w0o + 9)).bind (Cell.asS 2)).bind fun qs_21 => let qG_22 := qG_20.alloc (.row [.int .i64 at5, .int .i64 size4] false); (if 1 = 0 then some [] else qG_22.lds qG_20.next 0 (1 * 2)).bind fun qnew_23 => guardK (decide (qs_21.2.2 + 1 ≤ most)) ((qG_22.app qs_21.1 qs_21.2.1 qs_21.2.2 2 1 qnew_23).bind fun qp_24 => guardK (!Nat.beq w0i 0) ((qp_24.2.2.sts w0i (w0o + 9) [.sl 2 qp_24.1 qp_24.2.1 (qs_21.2.2 + 1)]).bind fun qG_25 => guardK (!Nat.beq w0i 0) (((qG_25.ld w0i (w0o + 10)).bind (Cell.asI .i64)).bind fun qx_26 => guardK (!Nat.beq w0i 0) ((qG_25.sts w0i (w0o + 10) [.int .i64 (IntKind.i64.wrap (qx_26 + size4))]).bind fun qG_27 => tight_writer_fills.L13 M C w0i w0o size4 (IntKind.i64.wrap (at5 + size4)) qG_27)))))))) else guardK (!Nat.beq w0i 0) (((G.ld w0i (w0o + 11)).bind (Cell.asS 1)).bind fun qs_28 => guardK (!Nat.beq w0i 0) (((G.ld w0i (w0o + 8)).bind (Cell.asS 6)).bind fun qs_29 => let qG_30 := G.alloc (.row [.int .i64 ((qs_29.2.2 : Nat) : Int)] false); (if 1 = 0 then some [] else qG_30.lds G.next 0 (1 * 1)).bind fun qnew_31 => guardK (decide (qs_28.2.2 + 1 ≤ most)) ((qG_30.app qs_28.1 qs_28.2.1 qs_28.2.2 1 1 qnew_31).bind fun qp_32 => guardK (!Nat.beq w0i 0) ((qp_32.2.2.sts w0i (w0o + 11) [.sl 1 qp_32.1 qp_32.2.1 (qs_28.2.2 + 1)]).bind fun qG_33 => some ([], qG_33)))))))) := (M.hs _ _ _ _ _ _ _).trans (by kernel_rfl)
def tight_writer_fills.f (M : Mach) (C : Call) (w0i : Nat) (w0o : Nat) (k1 : Int) (G : GH) : Option Res := guardK (!Nat.beq w0i 0) (((G.ld w0i ((w0o + 0) + 0)).bind (Cell.asI .i64)).bind fun qx_1 => (binD .shl .i64 qx_1 (IntKind.u64.wrap k1)).bind fun qx_2 => guardK (!Nat.beq w0i 0) (((G.ld w0i ((w0o + 0) + 0)).bind (Cell.asI .i64)).bind fun qx_3 => ((G.ld w0i ((w0o + 0) + 1)).bind (Cell.asI .i64)).bind fun qx_4 => ((G.ld w0i ((w0o + 0) + 2)).bind (Cell.asI .i64)).bind fun qx_5 => ((G.ld w0i ((w0o + 0) + 3)).bind (Cell.asI .i64)).bind fun qx_6 => ((G.ld w0i ((w0o + 0) + 4)).bind (Cell.asI .i64)).bind fun qx_7 => ((G.ld w0i ((w0o + 0) + 5)).bind (Cell.asI .i64)).bind fun qx_8 => ((G.ld w0i ((w0o + 0) + 6)).bind (Cell.asI .i64)).bind fun qx_9 => ((G.ld w0i ((w0o + 0) + 7)).bind (Cell.asI .i64)).bind fun qx_10 => (C conf_Ceil.id [.agg [.int .i64 qx_3, .int .i64 qx_4, .int .i64 qx_5, .int .i64 qx_6, .int .i64 qx_7, .int .i64 qx_8, .int .i64 qx_9, .int .i64 qx_10], .c (.int .i64 (IntKind.i64.wrap (k1 - 1)))] G).bind fun qr_11 => (((qr_11.1[0]?).bind V1.c?).bind (Cell.asI .i64)).bind fun qx_12 => ((qr_11.2.ld w0i ((w0o + 0) + 0)).bind (Cell.asI .i64)).bind fun qx_13 => guardK (decide ((.c (.int .i64 qx_1) : V1) = .c (.int .i64 qx_13))) (tight_writer_fills.L13 M C w0i w0o qx_2 qx_12 qr_11.2)))
theorem tight_writer_fills.eq (M : Mach) (C : Call) (w0i : Nat) (w0o : Nat) (k1 : Int) (G : GH) : runF M C tight_writer_fills.d [.c (.ptr w0i w0o), .c (.int .i64 k1)] G = tight_writer_fills.f M C w0i w0o k1 G := by kernel_rfl

/- 6 hodman/hodmanlaw21.TightForms -/
def hodmanlaw21_TightForms.d : DFn := { ntmps := 57, res := [.t 0], body := (.seq (.region [⟨0, some 0, .move (.k (.c (.bool false))), none⟩]) (.seq (.seq (.region [⟨0, some 8, .call 12 [] [.c (.bool)], none⟩,
    ⟨1, some 9, .not (.t 8), none⟩]) (.cond (.t 9) (.seq (.region [⟨0, some 0, .move (.k (.c (.bool false))), none⟩]) .ret) .skip)) (.seq (.region [⟨0, some 11, .build [.int .i64 0, .int .i64 0, .int .i64 0, .int .i64 0, .int .i64 0, .int .i64 0] [(0, 1, .k (.c (.int .i64 1))), (1, 1, .k (.c (.int .i64 2))), (2, 1, .k (.c (.int .i64 4))), (3, 1, .k (.c (.int .i64 1)))], none⟩,
    ⟨1, some 12, .call 24 [.t 11] [.agg [.int .i64, .int .i64, .int .i64, .int .i64, .int .i64, .int .i64, .int .i64, .int .i64], .c (.int .i64)], none⟩,
    ⟨2, some 10, .move (.t 12), none⟩,
    ⟨3, some 13, .ext 10 0, none⟩,
    ⟨4, some 14, .ext 10 1, none⟩,
    ⟨5, some 1, .boxz 54 [29] [.int .i64 0, .int .i64 0, .int .i64 0, .int .i64 0, .int .i64 0, .int .i64 0, .int .i64 0, .int .i64 0], none⟩,
    ⟨6, none, .stL 1 54 (.t 13) 8, none⟩,
    ⟨7, some 2, .move (.t 14), none⟩]) (.seq (.region [⟨0, some 15, .ldL 1 54 (.agg [.int .i64, .int .i64, .int .i64, .int .i64, .int .i64, .int .i64, .int .i64, .int .i64]), none⟩,
    ⟨1, some 16, .call 18 [.t 15] [.c (.sl 6)], none⟩,
    ⟨2, some 3, .move (.t 16), none⟩]) (.seq (.region [⟨0, some 17, .ldL 1 54 (.agg [.int .i64, .int .i64, .int .i64, .int .i64, .int .i64, .int .i64, .int .i64, .int .i64]), none⟩,
    ⟨1, some 18, .call 16 [.t 17] [.c (.sl 1)], none⟩,
    ⟨2, some 4, .move (.t 18), none⟩]) (.seq (.region [⟨0, some 19, .build [.int .i64 0, .int .i64 0, .int .i64 0, .int .i64 0, .int .i64 0, .int .u8 0] [(0, 1, .k (.c (.int .i64 1))), (2, 1, .k (.c (.int .i64 1)))], none⟩,
    ⟨1, some 20, .build [.int .i64 0, .int .i64 0, .int .i64 0, .int .i64 0, .int .i64 0, .int .u8 0] [(0, 1, .k (.c (.int .i64 1))), (2, 1, .k (.c (.int .i64 2)))], none⟩,
    ⟨2, some 5, .boxz 55 [] [.int .i64 0, .int .i64 0, .int .i64 0, .int .i64 0, .int .i64 0, .int .u8 0], none⟩,
    ⟨3, some 6, .boxz 56 [] [.int .i64 0, .int .i64 0, .int .i64 0, .int .i64 0, .int .i64 0, .int .u8 0], none⟩,
    ⟨4, none, .stL 5 55 (.t 19) 6, none⟩,
    ⟨5, none, .stL 6 56 (.t 20) 6, none⟩]) (.seq (.region [⟨0, some 21, .ldL 5 55 (.agg [.int .i64, .int .i64, .int .i64, .int .i64, .int .i64, .int .u8]), none⟩,
    ⟨1, some 22, .ldL 5 55 (.agg [.int .i64, .int .i64, .int .i64, .int .i64, .int .i64, .int .u8]), none⟩,
    ⟨2, some 23, .ldL 5 55 (.agg [.int .i64, .int .i64, .int .i64, .int .i64, .int .i64, .int .u8]), none⟩,
    ⟨3, some 24, .ldL 5 55 (.agg [.int .i64, .int .i64, .int .i64, .int .i64, .int .i64, .int .u8]), none⟩,
    ⟨4, some 25, .build [.int .i64 0, .int .i64 0, .int .i64 0, .int .i64 0, .int .i64 0, .int .u8 0] [(0, 1, .k (.c (.int .i64 5))), (1, 1, .k (.c (.int .i64 1)))], none⟩,
    ⟨5, some 26, .build [.int .i64 0, .int .i64 0, .int .i64 0, .int .i64 0, .int .i64 0, .int .u8 0] [(0, 1, .k (.c (.int .i64 5))), (1, 1, .k (.c (.int .i64 3)))], none⟩,
    ⟨6, some 27, .ldL 6 56 (.agg [.int .i64, .int .i64, .int .i64, .int .i64, .int .i64, .int .u8]), none⟩,
    ⟨7, some 28, .bslice 7 6 [.int .i64 0, .int .i64 0, .int .i64 0, .int .i64 0, .int .i64 0, .int .u8 0, .int .i64 0, .int .i64 0, .int .i64 0, .int .i64 0, .int .i64 0, .int .u8 0, .int .i64 0, .int .i64 0, .int .i64 0, .int .i64 0, .int .i64 0, .int .u8 0, .int .i64 0, .int .i64 0, .int .i64 0, .int .i64 0, .int .i64 0, .int .u8 0, .int .i64 0, .int .i64 0, .int .i64 0, .int .i64 0, .int .i64 0, .int .u8 0, .int .i64 0, .int .i64 0, .int .i64 0, .int .i64 0, .int .i64 0, .int .u8 0, .int .i64 0, .int .i64 0, .int .i64 0, .int .i64 0, .int .i64 0, .int .u8 0] [(0, 6, .t 21), (6, 6, .t 22), (12, 6, .t 23), (18, 6, .t 24), (24, 6, .t 25), (30, 6, .t 26), (36, 6, .t 27)], none⟩,
    ⟨8, some 7, .move (.t 28), none⟩]) (.seq (.region [⟨0, some 29, .faddr 1 2, none⟩,
    ⟨1, some 30, .ldL 29 54 (.c (.int .i64)), none⟩,
    ⟨2, some 31, .cmp .eql .i64 (.t 30) (.k (.c (.int .i64 4))), none⟩,
    ⟨3, some 32, .move (.t 31), none⟩,
    ⟨4, some 33, .move (.t 3), some (32, true)⟩,
    ⟨5, some 34, .move (.t 7), some (32, true)⟩,
    ⟨6, some 35, .call 17 [.t 33, .t 34] [.c (.bool)], some (32, true)⟩,
    ⟨7, some 36, .pick (.t 32) (.t 35) (.k (.c (.bool false))), none⟩,
    ⟨8, some 37, .move (.t 36), none⟩,
    ⟨9, some 38, .move (.t 4), some (37, true)⟩,
    ⟨10, some 39, .len (.t 38), some (37, true)⟩,
    ⟨11, some 40, .cmp .eql .i64 (.t 39) (.k (.c (.int .i64 2))), some (37, true)⟩,
    ⟨12, some 41, .pick (.t 37) (.t 40) (.k (.c (.bool false))), none⟩,
    ⟨13, some 42, .move (.t 41), none⟩,
    ⟨14, some 43, .move (.t 4), some (42, true)⟩,
    ⟨15, some 44, .iaddr (.t 43) (.k (.c (.int .i64 0))) 1, some (42, true)⟩,
    ⟨16, some 45, .ldG 44 (.c (.int .i64)), some (42, true)⟩,
    ⟨17, some 46, .cmp .eql .i64 (.t 45) (.k (.c (.int .i64 4))), some (42, true)⟩,
    ⟨18, some 47, .pick (.t 42) (.t 46) (.k (.c (.bool false))), none⟩,
    ⟨19, some 48, .move (.t 47), none⟩,
    ⟨20, some 49, .move (.t 4), some (48, true)⟩,
    ⟨21, some 50, .iaddr (.t 49) (.k (.c (.int .i64 1))) 1, some (48, true)⟩,
    ⟨22, some 51, .ldG 50 (.c (.int .i64)), some (48, true)⟩,
    ⟨23, some 52, .cmp .eql .i64 (.t 51) (.k (.c (.int .i64 7))), some (48, true)⟩,
    ⟨24, some 53, .pick (.t 48) (.t 52) (.k (.c (.bool false))), none⟩,
    ⟨25, some 0, .move (.t 53), none⟩]) .ret)))))))) }
def hodmanlaw21_TightForms.f (M : Mach) (C : Call)  (G : GH) : Option Res := (C hodmanlaw21_begun.id [] G).bind fun qr_1 => (((qr_1.1[0]?).bind V1.c?).bind Cell.asB).bind fun qb_2 => bif (!qb_2) then some ([.c (.bool false)], qr_1.2) else (C hodmanref1_Of.id [.agg [.int .i64 1, .int .i64 2, .int .i64 4, .int .i64 1, .int .i64 0, .int .i64 0]] qr_1.2).bind fun qr_3 => ((qr_3.1[0]?).bind V1.a?).bind fun qcs_4 => if qcs_4.length = 8 then (((qcs_4[0]?).bind (Cell.asI .i64)).bind fun qx_5 => ((qcs_4[1]?).bind (Cell.asI .i64)).bind fun qx_6 => ((qcs_4[2]?).bind (Cell.asI .i64)).bind fun qx_7 => ((qcs_4[3]?).bind (Cell.asI .i64)).bind fun qx_8 => ((qcs_4[4]?).bind (Cell.asI .i64)).bind fun qx_9 => ((qcs_4[5]?).bind (Cell.asI .i64)).bind fun qx_10 => ((qcs_4[6]?).bind (Cell.asI .i64)).bind fun qx_11 => ((qcs_4[7]?).bind (Cell.asI .i64)).bind fun qx_12 => (((qr_3.1[1]?).bind V1.c?).bind (Cell.asI .i64)).bind fun qx_13 => (C tight_Script.id [.agg [.int .i64 qx_5, .int .i64 qx_6, .int .i64 qx_7, .int .i64 qx_8, .int .i64 qx_9, .int .i64 qx_10, .int .i64 qx_11, .int .i64 qx_12]] qr_3.2).bind fun qr_14 => (((qr_14.1[0]?).bind V1.c?).bind (Cell.asS 6)).bind fun qs_15 => (C tight_Stages.id [.agg [.int .i64 qx_5, .int .i64 qx_6, .int .i64 qx_7, .int .i64 qx_8, .int .i64 qx_9, .int .i64 qx_10, .int .i64 qx_11, .int .i64 qx_12]] qr_14.2).bind fun qr_16 => (((qr_16.1[0]?).bind V1.c?).bind (Cell.asS 1)).bind fun qs_17 => let qG_18 := qr_16.2.alloc (.row [.int .i64 1, .int .i64 0, .int .i64 1, .int .i64 0, .int .i64 0, .int .u8 0, .int .i64 1, .int .i64 0, .int .i64 1, .int .i64 0, .int .i64 0, .int .u8 0, .int .i64 1, .int .i64 0, .int .i64 1, .int .i64 0, .int .i64 0, .int .u8 0, .int .i64 1, .int .i64 0, .int .i64 1, .int .i64 0, .int .i64 0, .int .u8 0, .int .i64 5, .int .i64 1, .int .i64 0, .int .i64 0, .int .i64 0, .int .u8 0, .int .i64 5, .int .i64 3, .int .i64 0, .int .i64 0, .int .i64 0, .int .u8 0, .int .i64 1, .int .i64 0, .int .i64 2, .int .i64 0, .int .i64 0, .int .u8 0] false); bif decide (qx_7 = 4) then (C hodmanref17_SameOps.id [.c (.sl 6 qs_15.1 qs_15.2.1 qs_15.2.2), .c (.sl 6 qr_16.2.next 0 7)] qG_18).bind fun qr_19 => (((qr_19.1[0]?).bind V1.c?).bind Cell.asB).bind fun qb_20 => bif qb_20 then bif decide (((qs_17.2.2 : Nat) : Int) = 2) then guardK (decide (0 ≤ (0 : Int) ∧ (0 : Int) < ((qs_17.2.2 : Nat) : Int))) (((qr_19.2.ld qs_17.1 (qs_17.2.1 + Int.toNat 0 * 1)).bind (Cell.asI .i64)).bind fun qx_21 => bif decide (qx_21 = 4) then guardK (decide (0 ≤ (1 : Int) ∧ (1 : Int) < ((qs_17.2.2 : Nat) : Int))) (((qr_19.2.ld qs_17.1 (qs_17.2.1 + Int.toNat 1 * 1)).bind (Cell.asI .i64)).bind fun qx_22 => some ([.c (.bool (decide (qx_22 = 7)))], qr_19.2)) else some ([.c (.bool false)], qr_19.2)) else some ([.c (.bool false)], qr_19.2) else some ([.c (.bool false)], qr_19.2) else some ([.c (.bool false)], qG_18)) else none
theorem hodmanlaw21_TightForms.eq (M : Mach) (C : Call)  (G : GH) : runF M C hodmanlaw21_TightForms.d [] G = hodmanlaw21_TightForms.f M C  G := by kernel_rfl

/- 36 hodman/tight.all -/
def tight_all.c6 : DCode := (.cond (.t 15) .skip (.exit 0))
def tight_all.c13 : DCode := (.region [⟨0, some 23, .move (.t 3), none⟩,
    ⟨1, some 24, .move (.t 4), none⟩,
    ⟨2, some 25, .call 55 [.t 23, .t 24] [], none⟩])
def tight_all.c16 : DCode := (.region [⟨0, some 16, .move (.t 4), none⟩,
    ⟨1, some 17, .bin .add .i64 (.t 16) (.k (.c (.int .i64 1))), none⟩,
    ⟨2, some 4, .move (.t 17), none⟩])
def tight_all.c17 : DCode := (.seq (.block 1 (.seq (.seq (.region [⟨0, some 18, .move (.t 4), none⟩,
    ⟨1, some 19, .cmp .gtr .i64 (.t 18) (.k (.c (.int .i64 0))), none⟩]) (.cond (.t 19) (.region [⟨0, some 20, .move (.t 3), none⟩,
    ⟨1, some 21, .move (.t 4), none⟩,
    ⟨2, some 22, .call 54 [.t 20, .t 21] [], none⟩]) .skip)) (.cut [1, 3, 4, 27] tight_all.c13))) tight_all.c16)
def tight_all.c18 : DCode := (.seq (.seq (.region [⟨0, some 8, .ldL 1 27 (.agg [.int .i64, .int .i64, .int .i64, .int .i64, .int .i64, .int .i64, .int .i64, .int .i64]), none⟩,
    ⟨1, some 9, .call 53 [.t 8] [.c (.bool)], none⟩,
    ⟨2, some 10, .move (.t 9), none⟩,
    ⟨3, some 11, .move (.t 4), some (10, true)⟩,
    ⟨4, some 12, .faddr 1 3, some (10, true)⟩,
    ⟨5, some 13, .ldL 12 27 (.c (.int .i64)), some (10, true)⟩,
    ⟨6, some 14, .cmp .leq .i64 (.t 11) (.t 13), some (10, true)⟩,
    ⟨7, some 15, .pick (.t 10) (.t 14) (.k (.c (.bool false))), none⟩]) (.cut [1, 3, 4, 15, 27] tight_all.c6)) tight_all.c17)
def tight_all.c19 : DCode := (.loop [1, 3, 4, 27] tight_all.c18)
def tight_all.c24 : DCode := (.seq (.region [⟨0, some 26, .move (.t 3), none⟩,
    ⟨1, some 2, .move (.t 26), none⟩]) .ret)
def tight_all.d : DFn := { ntmps := 28, res := [.t 2], body := (.seq (.region [⟨0, some 1, .boxv 27 [12] (.t 0) 8, none⟩,
    ⟨1, some 2, .move (.k (.c (.ptr 0 0))), none⟩]) (.seq (.region [⟨0, some 5, .ldL 1 27 (.agg [.int .i64, .int .i64, .int .i64, .int .i64, .int .i64, .int .i64, .int .i64, .int .i64]), none⟩,
    ⟨1, some 6, .build [.int .i64 0, .int .i64 0, .int .i64 0, .int .i64 0, .int .i64 0, .int .i64 0, .int .i64 0, .int .i64 0, .sl 6 0 0 0, .sl 2 0 0 0, .int .i64 0, .sl 1 0 0 0] [(0, 8, .t 5)], none⟩,
    ⟨2, some 7, .newv (.t 6) 12, none⟩,
    ⟨3, some 3, .move (.t 7), none⟩]) (.seq (.seq (.region [⟨0, some 4, .move (.k (.c (.int .i64 0))), none⟩]) (.block 0 tight_all.c19)) tight_all.c24))) }
def tight_all.k24 (M : Mach) (C : Call) : Kont := execC M.j C (M.ag C) tight_all.c24 ({ exits := [], ret := retK tight_all.d } : Env) (retK tight_all.d)
def tight_all.e20 (M : Mach) (C : Call) : Env := { exits := (0, (tight_all.k24 M C)) :: (({ exits := [], ret := retK tight_all.d } : Env)).exits, ret := (({ exits := [], ret := retK tight_all.d } : Env)).ret }
def tight_all.L19 (M : Mach) (C : Call) (w3i : Nat) (w3o : Nat) (k4 : Int) (c27_0 : Int) (c27_1 : Int) (c27_2 : Int) (c27_3 : Int) (c27_4 : Int) (c27_5 : Int) (c27_6 : Int) (c27_7 : Int) (G : GH) : Option Res := M.ag C [1, 3, 4, 27] tight_all.c18 (tight_all.e20 M C) (tight_all.k24 M C) [.und, .ref 27 0, .und, .v (.c (.ptr w3i w3o)), .v (.c (.int .i64 k4)), .und, .und, .und, .und, .und, .und, .und, .und, .und, .und, .und, .und, .und, .und, .und, .und, .und, .und, .und, .und, .und, .und, .box [.int .i64 c27_0, .int .i64 c27_1, .int .i64 c27_2, .int .i64 c27_3, .int .i64 c27_4, .int .i64 c27_5, .int .i64 c27_6, .int .i64 c27_7]] G
def tight_all.k19 (M : Mach) (C : Call) : Kont := fun tm G => M.ag C [1, 3, 4, 27] tight_all.c18 (tight_all.e20 M C) (tight_all.k24 M C) (restr [1, 3, 4, 27] 0 tm) G
def tight_all.k17 (M : Mach) (C : Call) : Kont := execC M.j C (M.ag C) tight_all.c17 (tight_all.e20 M C) (tight_all.k19 M C)
def tight_all.J6 (M : Mach) (C : Call) (w3i : Nat) (w3o : Nat) (k4 : Int) (t15 : Bool) (c27_0 : Int) (c27_1 : Int) (c27_2 : Int) (c27_3 : Int) (c27_4 : Int) (c27_5 : Int) (c27_6 : Int) (c27_7 : Int) (G : GH) : Option Res := M.j (execC M.j C (M.ag C) tight_all.c6 (tight_all.e20 M C) (tight_all.k17 M C)) [.und, .ref 27 0, .und, .v (.c (.ptr w3i w3o)), .v (.c (.int .i64 k4)), .und, .und, .und, .und, .und, .und, .und, .und, .und, .und, .v (.c (.bool t15)), .und, .und, .und, .und, .und, .und, .und, .und, .und, .und, .und, .box [.int .i64 c27_0, .int .i64 c27_1, .int .i64 c27_2, .int .i64 c27_3, .int .i64 c27_4, .int .i64 c27_5, .int .i64 c27_6, .int .i64 c27_7]] G
def tight_all.k16 (M : Mach) (C : Call) : Kont := execC M.j C (M.ag C) tight_all.c16 (tight_all.e20 M C) (tight_all.k19 M C)
def tight_all.e15 (M : Mach) (C : Call) : Env := { exits := (1, (tight_all.k16 M C)) :: ((tight_all.e20 M C)).exits, ret := ((tight_all.e20 M C)).ret }
def tight_all.J13 (M : Mach) (C : Call) (w3i : Nat) (w3o : Nat) (k4 : Int) (c27_0 : Int) (c27_1 : Int) (c27_2 : Int) (c27_3 : Int) (c27_4 : Int) (c27_5 : Int) (c27_6 : Int) (c27_7 : Int) (G : GH) : Option Res := M.j (execC M.j C (M.ag C) tight_all.c13 (tight_all.e15 M C) (tight_all.k16 M C)) [.und, .ref 27 0, .und, .v (.c (.ptr w3i w3o)), .v (.c (.int .i64 k4)), .und, .und, .und, .und, .und, .und, .und, .und, .und, .und, .und, .und, .und, .und, .und, .und, .und, .und, .und, .und, .und, .und, .box [.int .i64 c27_0, .int .i64 c27_1, .int .i64 c27_2, .int .i64 c27_3, .int .i64 c27_4, .int .i64 c27_5, .int .i64 c27_6, .int .i64 c27_7]] G
theorem tight_all.L19_eq (M : Mach) (C : Call) (w3i : Nat) (w3o : Nat) (k4 : Int) (c27_0 : Int) (c27_1 : Int) (c27_2 : Int) (c27_3 : Int) (c27_4 : Int) (c27_5 : Int) (c27_6 : Int) (c27_7 : Int) (G : GH) : tight_all.L19 M C w3i w3o k4 c27_0 c27_1 c27_2 c27_3 c27_4 c27_5 c27_6 c27_7 G = ((C tight_may.id [.agg [.int .i64 c27_0, .int .i64 c27_1, .int .i64 c27_2, .int .i64 c27_3, .int .i64 c27_4, .int .i64 c27_5, .int .i64 c27_6, .int .i64 c27_7]] G).bind fun qr_2 => (((qr_2.1[0]?).bind V1.c?).bind Cell.asB).bind fun qb_3 => bif qb_3 then tight_all.J6 M C w3i w3o k4 (decide (k4 ≤ c27_3)) c27_0 c27_1 c27_2 c27_3 c27_4 c27_5 c27_6 c27_7 qr_2.2 else tight_all.J6 M C w3i w3o k4 false c27_0 c27_1 c27_2 c27_3 c27_4 c27_5 c27_6 c27_7 qr_2.2) := (M.hs _ _ _ _ _ _ _).trans (by kernel_rfl)
theorem tight_all.J6_eq (M : Mach) (C : Call) (w3i : Nat) (w3o : Nat) (k4 : Int) (t15 : Bool) (c27_0 : Int) (c27_1 : Int) (c27_2 : Int) (c27_3 : Int) (c27_4 : Int) (c27_5 : Int) (c27_6 : Int) (c27_7 : Int) (G : GH) : tight_all.J6 M C w3i w3o k4 t15 c27_0 c27_1 c27_2 c27_3 c27_4 c27_5 c27_6 c27_7 G = (bif t15 then bif decide (k4 > 0) then (C tight_writer_frees.id [.c (.ptr w3i w3o), .c (.int .i64 k4)] G).bind fun qr_4 => tight_all.J13 M C w3i w3o k4 c27_0 c27_1 c27_2 c27_3 c27_4 c27_5 c27_6 c27_7 qr_4.2 else tight_all.J13 M C w3i w3o k4 c27_0 c27_1 c27_2 c27_3 c27_4 c27_5 c27_6 c27_7 G else some ([.c (.ptr w3i w3o)], G)) := (M.hj _ _ _).trans (by kernel_rfl)
theorem tight_all.J13_eq (M : Mach) (C : Call) (w3i : Nat) (w3o : Nat) (k4 : Int) (c27_0 : Int) (c27_1 : Int) (c27_2 : Int) (c27_3 : Int) (c27_4 : Int) (c27_5 : Int) (c27_6 : Int) (c27_7 : Int) (G : GH) : tight_all.J13 M C w3i w3o k4 c27_0 c27_1 c27_2 c27_3 c27_4 c27_5 c27_6 c27_7 G = ((C tight_writer_fills.id [.c (.ptr w3i w3o), .c (.int .i64 k4)] G).bind fun qr_5 => tight_all.L19 M C w3i w3o (IntKind.i64.wrap (k4 + 1)) c27_0 c27_1 c27_2 c27_3 c27_4 c27_5 c27_6 c27_7 qr_5.2) := (M.hj _ _ _).trans (by kernel_rfl)
def tight_all.f (M : Mach) (C : Call) (c0_0 : Int) (c0_1 : Int) (c0_2 : Int) (c0_3 : Int) (c0_4 : Int) (c0_5 : Int) (c0_6 : Int) (c0_7 : Int) (G : GH) : Option Res := let qG_1 := G.alloc (.row [.int .i64 c0_0, .int .i64 c0_1, .int .i64 c0_2, .int .i64 c0_3, .int .i64 c0_4, .int .i64 c0_5, .int .i64 c0_6, .int .i64 c0_7, .sl 6 0 0 0, .sl 2 0 0 0, .int .i64 0, .sl 1 0 0 0] false); tight_all.L19 M C G.next 0 0 c0_0 c0_1 c0_2 c0_3 c0_4 c0_5 c0_6 c0_7 qG_1
theorem tight_all.eq (M : Mach) (C : Call) (c0_0 : Int) (c0_1 : Int) (c0_2 : Int) (c0_3 : Int) (c0_4 : Int) (c0_5 : Int) (c0_6 : Int) (c0_7 : Int) (G : GH) : runF M C tight_all.d [.agg [.int .i64 c0_0, .int .i64 c0_1, .int .i64 c0_2, .int .i64 c0_3, .int .i64 c0_4, .int .i64 c0_5, .int .i64 c0_6, .int .i64 c0_7]] G = tight_all.f M C c0_0 c0_1 c0_2 c0_3 c0_4 c0_5 c0_6 c0_7 G := by kernel_rfl

/- 12 hodman/hodmanlaw21.begun -/
def hodmanlaw21_begun.d : DFn := { ntmps := 36, res := [.t 0], body := (.seq (.region [⟨0, some 0, .move (.k (.c (.bool false))), none⟩]) (.seq (.region [⟨0, some 6, .build [.int .i64 0, .int .i64 0, .int .i64 0, .int .i64 0, .int .i64 0, .int .i64 0] [(0, 1, .k (.c (.int .i64 1))), (1, 1, .k (.c (.int .i64 1))), (2, 1, .k (.c (.int .i64 2))), (3, 1, .k (.c (.int .i64 1)))], none⟩,
    ⟨1, some 7, .call 24 [.t 6] [.agg [.int .i64, .int .i64, .int .i64, .int .i64, .int .i64, .int .i64, .int .i64, .int .i64], .c (.int .i64)], none⟩,
    ⟨2, some 5, .move (.t 7), none⟩,
    ⟨3, some 8, .ext 5 0, none⟩,
    ⟨4, some 9, .ext 5 1, none⟩,
    ⟨5, some 1, .boxz 35 [] [.int .i64 0, .int .i64 0, .int .i64 0, .int .i64 0, .int .i64 0, .int .i64 0, .int .i64 0, .int .i64 0], none⟩,
    ⟨6, none, .stL 1 35 (.t 8) 8, none⟩,
    ⟨7, some 2, .move (.t 9), none⟩]) (.seq (.region [⟨0, some 10, .ldL 1 35 (.agg [.int .i64, .int .i64, .int .i64, .int .i64, .int .i64, .int .i64, .int .i64, .int .i64]), none⟩,
    ⟨1, some 11, .call 18 [.t 10] [.c (.sl 6)], none⟩,
    ⟨2, some 3, .move (.t 11), none⟩]) (.seq (.region [⟨0, some 12, .ldL 1 35 (.agg [.int .i64, .int .i64, .int .i64, .int .i64, .int .i64, .int .i64, .int .i64, .int .i64]), none⟩,
    ⟨1, some 13, .call 16 [.t 12] [.c (.sl 1)], none⟩,
    ⟨2, some 4, .move (.t 13), none⟩]) (.seq (.region [⟨0, some 14, .move (.t 3), none⟩,
    ⟨1, some 15, .len (.t 14), none⟩,
    ⟨2, some 16, .cmp .eql .i64 (.t 15) (.k (.c (.int .i64 2))), none⟩,
    ⟨3, some 17, .move (.t 16), none⟩,
    ⟨4, some 18, .move (.t 3), some (17, true)⟩,
    ⟨5, some 19, .iaddr (.t 18) (.k (.c (.int .i64 0))) 6, some (17, true)⟩,
    ⟨6, some 20, .ldG 19 (.agg [.int .i64, .int .i64, .int .i64, .int .i64, .int .i64, .int .u8]), some (17, true)⟩,
    ⟨7, some 21, .build [.int .i64 0, .int .i64 0, .int .i64 0, .int .i64 0, .int .i64 0, .int .u8 0] [(0, 1, .k (.c (.int .i64 1))), (2, 1, .k (.c (.int .i64 1)))], some (17, true)⟩,
    ⟨8, some 22, .aeq false [.int .i64, .int .i64, .int .i64, .int .i64, .int .i64, .int .u8] (.t 20) (.t 21), some (17, true)⟩,
    ⟨9, some 23, .pick (.t 17) (.t 22) (.k (.c (.bool false))), none⟩,
    ⟨10, some 24, .move (.t 23), none⟩,
    ⟨11, some 25, .move (.t 4), some (24, true)⟩,
    ⟨12, some 26, .len (.t 25), some (24, true)⟩,
    ⟨13, some 27, .cmp .eql .i64 (.t 26) (.k (.c (.int .i64 1))), some (24, true)⟩,
    ⟨14, some 28, .pick (.t 24) (.t 27) (.k (.c (.bool false))), none⟩,
    ⟨15, some 29, .move (.t 28), none⟩,
    ⟨16, some 30, .move (.t 4), some (29, true)⟩,
    ⟨17, some 31, .iaddr (.t 30) (.k (.c (.int .i64 0))) 1, some (29, true)⟩,
    ⟨18, some 32, .ldG 31 (.c (.int .i64)), some (29, true)⟩,
    ⟨19, some 33, .cmp .eql .i64 (.t 32) (.k (.c (.int .i64 2))), some (29, true)⟩,
    ⟨20, some 34, .pick (.t 29) (.t 33) (.k (.c (.bool false))), none⟩,
    ⟨21, some 0, .move (.t 34), none⟩]) .ret))))) }
def hodmanlaw21_begun.f (M : Mach) (C : Call)  (G : GH) : Option Res := (C hodmanref1_Of.id [.agg [.int .i64 1, .int .i64 1, .int .i64 2, .int .i64 1, .int .i64 0, .int .i64 0]] G).bind fun qr_1 => ((qr_1.1[0]?).bind V1.a?).bind fun qcs_2 => if qcs_2.length = 8 then (((qcs_2[0]?).bind (Cell.asI .i64)).bind fun qx_3 => ((qcs_2[1]?).bind (Cell.asI .i64)).bind fun qx_4 => ((qcs_2[2]?).bind (Cell.asI .i64)).bind fun qx_5 => ((qcs_2[3]?).bind (Cell.asI .i64)).bind fun qx_6 => ((qcs_2[4]?).bind (Cell.asI .i64)).bind fun qx_7 => ((qcs_2[5]?).bind (Cell.asI .i64)).bind fun qx_8 => ((qcs_2[6]?).bind (Cell.asI .i64)).bind fun qx_9 => ((qcs_2[7]?).bind (Cell.asI .i64)).bind fun qx_10 => (((qr_1.1[1]?).bind V1.c?).bind (Cell.asI .i64)).bind fun qx_11 => (C tight_Script.id [.agg [.int .i64 qx_3, .int .i64 qx_4, .int .i64 qx_5, .int .i64 qx_6, .int .i64 qx_7, .int .i64 qx_8, .int .i64 qx_9, .int .i64 qx_10]] qr_1.2).bind fun qr_12 => (((qr_12.1[0]?).bind V1.c?).bind (Cell.asS 6)).bind fun qs_13 => (C tight_Stages.id [.agg [.int .i64 qx_3, .int .i64 qx_4, .int .i64 qx_5, .int .i64 qx_6, .int .i64 qx_7, .int .i64 qx_8, .int .i64 qx_9, .int .i64 qx_10]] qr_12.2).bind fun qr_14 => (((qr_14.1[0]?).bind V1.c?).bind (Cell.asS 1)).bind fun qs_15 => bif decide (((qs_13.2.2 : Nat) : Int) = 2) then guardK (decide (0 ≤ (0 : Int) ∧ (0 : Int) < ((qs_13.2.2 : Nat) : Int))) (((qr_14.2.ld qs_13.1 ((qs_13.2.1 + Int.toNat 0 * 6) + 0)).bind (Cell.asI .i64)).bind fun qx_16 => ((qr_14.2.ld qs_13.1 ((qs_13.2.1 + Int.toNat 0 * 6) + 1)).bind (Cell.asI .i64)).bind fun qx_17 => ((qr_14.2.ld qs_13.1 ((qs_13.2.1 + Int.toNat 0 * 6) + 2)).bind (Cell.asI .i64)).bind fun qx_18 => ((qr_14.2.ld qs_13.1 ((qs_13.2.1 + Int.toNat 0 * 6) + 3)).bind (Cell.asI .i64)).bind fun qx_19 => ((qr_14.2.ld qs_13.1 ((qs_13.2.1 + Int.toNat 0 * 6) + 4)).bind (Cell.asI .i64)).bind fun qx_20 => ((qr_14.2.ld qs_13.1 ((qs_13.2.1 + Int.toNat 0 * 6) + 5)).bind (Cell.asI .u8)).bind fun qx_21 => bif Bool.xor false (decide (qx_16 = 1) && (decide (qx_17 = 0) && (decide (qx_18 = 1) && (decide (qx_19 = 0) && (decide (qx_20 = 0) && (decide (qx_21 = 0) && true)))))) then bif decide (((qs_15.2.2 : Nat) : Int) = 1) then guardK (decide (0 ≤ (0 : Int) ∧ (0 : Int) < ((qs_15.2.2 : Nat) : Int))) (((qr_14.2.ld qs_15.1 (qs_15.2.1 + Int.toNat 0 * 1)).bind (Cell.asI .i64)).bind fun qx_22 => some ([.c (.bool (decide (qx_22 = 2)))], qr_14.2)) else some ([.c (.bool false)], qr_14.2) else some ([.c (.bool false)], qr_14.2)) else some ([.c (.bool false)], qr_14.2)) else none
theorem hodmanlaw21_begun.eq (M : Mach) (C : Call)  (G : GH) : runF M C hodmanlaw21_begun.d [] G = hodmanlaw21_begun.f M C  G := by kernel_rfl

/- 17 hodman/hodmanref17.SameOps -/
def hodmanref17_SameOps.c24 : DCode := (.seq (.seq (.region [⟨0, some 11, .move (.t 5), none⟩,
    ⟨1, some 12, .move (.t 0), none⟩,
    ⟨2, some 13, .len (.t 12), none⟩,
    ⟨3, some 14, .cmp .lss .i64 (.t 11) (.t 13), none⟩]) (.cond (.t 14) .skip (.exit 0))) (.seq (.block 1 (.seq (.region [⟨0, some 17, .move (.t 0), none⟩,
    ⟨1, some 18, .move (.t 5), none⟩,
    ⟨2, some 19, .iaddr (.t 17) (.t 18) 6, none⟩,
    ⟨3, some 20, .ldG 19 (.agg [.int .i64, .int .i64, .int .i64, .int .i64, .int .i64, .int .u8]), none⟩,
    ⟨4, some 21, .move (.t 1), none⟩,
    ⟨5, some 22, .move (.t 5), none⟩,
    ⟨6, some 23, .iaddr (.t 21) (.t 22) 6, none⟩,
    ⟨7, some 24, .ldG 23 (.agg [.int .i64, .int .i64, .int .i64, .int .i64, .int .i64, .int .u8]), none⟩,
    ⟨8, some 25, .aeq true [.int .i64, .int .i64, .int .i64, .int .i64, .int .i64, .int .u8] (.t 20) (.t 24), none⟩]) (.cond (.t 25) (.seq (.region [⟨0, some 4, .move (.k (.c (.bool false))), none⟩]) .ret) .skip))) (.region [⟨0, some 15, .move (.t 5), none⟩,
    ⟨1, some 16, .bin .add .i64 (.t 15) (.k (.c (.int .i64 1))), none⟩,
    ⟨2, some 5, .move (.t 16), none⟩])))
def hodmanref17_SameOps.c30 : DCode := (.seq (.region [⟨0, some 4, .move (.k (.c (.bool true))), none⟩]) .ret)
def hodmanref17_SameOps.d : DFn := { ntmps := 26, res := [.t 4], body := (.seq (.region [⟨0, some 4, .move (.k (.c (.bool false))), none⟩]) (.seq (.seq (.region [⟨0, some 6, .move (.t 0), none⟩,
    ⟨1, some 7, .len (.t 6), none⟩,
    ⟨2, some 8, .move (.t 1), none⟩,
    ⟨3, some 9, .len (.t 8), none⟩,
    ⟨4, some 10, .cmp .neq .i64 (.t 7) (.t 9), none⟩]) (.cond (.t 10) (.seq (.region [⟨0, some 4, .move (.k (.c (.bool false))), none⟩]) .ret) .skip)) (.seq (.seq (.region [⟨0, some 5, .move (.k (.c (.int .i64 0))), none⟩]) (.block 0 (.loop [0, 1, 5] hodmanref17_SameOps.c24))) hodmanref17_SameOps.c30))) }
def hodmanref17_SameOps.k30 (M : Mach) (C : Call) : Kont := execC M.j C (M.ag C) hodmanref17_SameOps.c30 ({ exits := [], ret := retK hodmanref17_SameOps.d } : Env) (retK hodmanref17_SameOps.d)
def hodmanref17_SameOps.e26 (M : Mach) (C : Call) : Env := { exits := (0, (hodmanref17_SameOps.k30 M C)) :: (({ exits := [], ret := retK hodmanref17_SameOps.d } : Env)).exits, ret := (({ exits := [], ret := retK hodmanref17_SameOps.d } : Env)).ret }
def hodmanref17_SameOps.L25 (M : Mach) (C : Call) (a0i : Nat) (a0o : Nat) (a0n : Nat) (b1i : Nat) (b1o : Nat) (b1n : Nat) (i5 : Int) (G : GH) : Option Res := M.ag C [0, 1, 5] hodmanref17_SameOps.c24 (hodmanref17_SameOps.e26 M C) (hodmanref17_SameOps.k30 M C) [.v (.c (.sl 6 a0i a0o a0n)), .v (.c (.sl 6 b1i b1o b1n)), .und, .und, .und, .v (.c (.int .i64 i5)), .und, .und, .und, .und, .und, .und, .und, .und, .und, .und, .und, .und, .und, .und, .und, .und, .und, .und, .und, .und] G
theorem hodmanref17_SameOps.L25_eq (M : Mach) (C : Call) (a0i : Nat) (a0o : Nat) (a0n : Nat) (b1i : Nat) (b1o : Nat) (b1n : Nat) (i5 : Int) (G : GH) : hodmanref17_SameOps.L25 M C a0i a0o a0n b1i b1o b1n i5 G = (bif decide (i5 < ((a0n : Nat) : Int)) then guardK (decide (0 ≤ i5 ∧ i5 < ((a0n : Nat) : Int))) (((G.ld a0i ((a0o + Int.toNat i5 * 6) + 0)).bind (Cell.asI .i64)).bind fun qx_1 => ((G.ld a0i ((a0o + Int.toNat i5 * 6) + 1)).bind (Cell.asI .i64)).bind fun qx_2 => ((G.ld a0i ((a0o + Int.toNat i5 * 6) + 2)).bind (Cell.asI .i64)).bind fun qx_3 => ((G.ld a0i ((a0o + Int.toNat i5 * 6) + 3)).bind (Cell.asI .i64)).bind fun qx_4 => ((G.ld a0i ((a0o + Int.toNat i5 * 6) + 4)).bind (Cell.asI .i64)).bind fun qx_5 => ((G.ld a0i ((a0o + Int.toNat i5 * 6) + 5)).bind (Cell.asI .u8)).bind fun qx_6 => guardK (decide (0 ≤ i5 ∧ i5 < ((b1n : Nat) : Int))) (((G.ld b1i ((b1o + Int.toNat i5 * 6) + 0)).bind (Cell.asI .i64)).bind fun qx_7 => ((G.ld b1i ((b1o + Int.toNat i5 * 6) + 1)).bind (Cell.asI .i64)).bind fun qx_8 => ((G.ld b1i ((b1o + Int.toNat i5 * 6) + 2)).bind (Cell.asI .i64)).bind fun qx_9 => ((G.ld b1i ((b1o + Int.toNat i5 * 6) + 3)).bind (Cell.asI .i64)).bind fun qx_10 => ((G.ld b1i ((b1o + Int.toNat i5 * 6) + 4)).bind (Cell.asI .i64)).bind fun qx_11 => ((G.ld b1i ((b1o + Int.toNat i5 * 6) + 5)).bind (Cell.asI .u8)).bind fun qx_12 => bif Bool.xor true (decide (qx_1 = qx_7) && (decide (qx_2 = qx_8) && (decide (qx_3 = qx_9) && (decide (qx_4 = qx_10) && (decide (qx_5 = qx_11) && (decide (qx_6 = qx_12) && true)))))) then some ([.c (.bool false)], G) else hodmanref17_SameOps.L25 M C a0i a0o a0n b1i b1o b1n (IntKind.i64.wrap (i5 + 1)) G)) else some ([.c (.bool true)], G)) := (M.hs _ _ _ _ _ _ _).trans (by kernel_rfl)
def hodmanref17_SameOps.f (M : Mach) (C : Call) (a0i : Nat) (a0o : Nat) (a0n : Nat) (b1i : Nat) (b1o : Nat) (b1n : Nat) (G : GH) : Option Res := bif (!decide (((a0n : Nat) : Int) = ((b1n : Nat) : Int))) then some ([.c (.bool false)], G) else hodmanref17_SameOps.L25 M C a0i a0o a0n b1i b1o b1n 0 G
theorem hodmanref17_SameOps.eq (M : Mach) (C : Call) (a0i : Nat) (a0o : Nat) (a0n : Nat) (b1i : Nat) (b1o : Nat) (b1n : Nat) (G : GH) : runF M C hodmanref17_SameOps.d [.c (.sl 6 a0i a0o a0n), .c (.sl 6 b1i b1o b1n)] G = hodmanref17_SameOps.f M C a0i a0o a0n b1i b1o b1n G := by kernel_rfl

/- 46 hodman/hodmanref1.Log -/
def hodmanref1_Log.c22 : DCode := (.region [⟨0, some 8, .move (.t 5), none⟩,
    ⟨1, some 9, .bin .add .i64 (.t 8) (.k (.c (.int .i64 1))), none⟩,
    ⟨2, some 5, .move (.t 9), none⟩])
def hodmanref1_Log.c24 : DCode := (.seq (.seq (.region [⟨0, some 6, .move (.t 5), none⟩,
    ⟨1, some 7, .cmp .lss .i64 (.t 6) (.k (.c (.int .i64 63))), none⟩]) (.cond (.t 7) .skip (.exit 0))) (.seq (.block 1 (.seq (.seq (.region [⟨0, some 10, .move (.t 4), none⟩,
    ⟨1, some 11, .move (.t 0), none⟩,
    ⟨2, some 12, .cmp .eql .i64 (.t 10) (.t 11), none⟩]) (.cond (.t 12) (.seq (.region [⟨0, some 13, .move (.t 5), none⟩,
    ⟨1, some 2, .move (.t 13), none⟩,
    ⟨2, some 3, .move (.k (.c (.bool true))), none⟩]) .ret) .skip)) (.seq (.region [⟨0, some 14, .move (.t 5), none⟩,
    ⟨1, some 15, .cmp .lss .i64 (.t 14) (.k (.c (.int .i64 62))), none⟩]) (.cond (.t 15) (.region [⟨0, some 16, .move (.t 4), none⟩,
    ⟨1, some 17, .bin .mul .i64 (.t 16) (.k (.c (.int .i64 2))), none⟩,
    ⟨2, some 4, .move (.t 17), none⟩]) .skip)))) (.cut [0, 4, 5] hodmanref1_Log.c22)))
def hodmanref1_Log.c25 : DCode := (.loop [0, 4, 5] hodmanref1_Log.c24)
def hodmanref1_Log.c30 : DCode := (.seq (.region [⟨0, some 2, .move (.k (.c (.int .i64 0))), none⟩,
    ⟨1, some 3, .move (.k (.c (.bool false))), none⟩]) .ret)
def hodmanref1_Log.d : DFn := { ntmps := 18, res := [.t 2, .t 3], body := (.seq (.region [⟨0, some 2, .move (.k (.c (.int .i64 0))), none⟩,
    ⟨1, some 3, .move (.k (.c (.bool false))), none⟩]) (.seq (.region [⟨0, some 4, .move (.k (.c (.int .i64 1))), none⟩]) (.seq (.seq (.region [⟨0, some 5, .move (.k (.c (.int .i64 0))), none⟩]) (.block 0 hodmanref1_Log.c25)) hodmanref1_Log.c30))) }
def hodmanref1_Log.k30 (M : Mach) (C : Call) : Kont := execC M.j C (M.ag C) hodmanref1_Log.c30 ({ exits := [], ret := retK hodmanref1_Log.d } : Env) (retK hodmanref1_Log.d)
def hodmanref1_Log.e26 (M : Mach) (C : Call) : Env := { exits := (0, (hodmanref1_Log.k30 M C)) :: (({ exits := [], ret := retK hodmanref1_Log.d } : Env)).exits, ret := (({ exits := [], ret := retK hodmanref1_Log.d } : Env)).ret }
def hodmanref1_Log.L25 (M : Mach) (C : Call) (v0 : Int) (p4 : Int) (n5 : Int) (G : GH) : Option Res := M.ag C [0, 4, 5] hodmanref1_Log.c24 (hodmanref1_Log.e26 M C) (hodmanref1_Log.k30 M C) [.v (.c (.int .i64 v0)), .und, .und, .und, .v (.c (.int .i64 p4)), .v (.c (.int .i64 n5)), .und, .und, .und, .und, .und, .und, .und, .und, .und, .und, .und, .und] G
def hodmanref1_Log.k25 (M : Mach) (C : Call) : Kont := fun tm G => M.ag C [0, 4, 5] hodmanref1_Log.c24 (hodmanref1_Log.e26 M C) (hodmanref1_Log.k30 M C) (restr [0, 4, 5] 0 tm) G
def hodmanref1_Log.J22 (M : Mach) (C : Call) (v0 : Int) (p4 : Int) (n5 : Int) (G : GH) : Option Res := M.j (execC M.j C (M.ag C) hodmanref1_Log.c22 (hodmanref1_Log.e26 M C) (hodmanref1_Log.k25 M C)) [.v (.c (.int .i64 v0)), .und, .und, .und, .v (.c (.int .i64 p4)), .v (.c (.int .i64 n5)), .und, .und, .und, .und, .und, .und, .und, .und, .und, .und, .und, .und] G
theorem hodmanref1_Log.L25_eq (M : Mach) (C : Call) (v0 : Int) (p4 : Int) (n5 : Int) (G : GH) : hodmanref1_Log.L25 M C v0 p4 n5 G = (bif decide (n5 < 63) then bif decide (p4 = v0) then some ([.c (.int .i64 n5), .c (.bool true)], G) else bif decide (n5 < 62) then hodmanref1_Log.J22 M C v0 (IntKind.i64.wrap (p4 * 2)) n5 G else hodmanref1_Log.J22 M C v0 p4 n5 G else some ([.c (.int .i64 0), .c (.bool false)], G)) := (M.hs _ _ _ _ _ _ _).trans (by kernel_rfl)
theorem hodmanref1_Log.J22_eq (M : Mach) (C : Call) (v0 : Int) (p4 : Int) (n5 : Int) (G : GH) : hodmanref1_Log.J22 M C v0 p4 n5 G = (hodmanref1_Log.L25 M C v0 p4 (IntKind.i64.wrap (n5 + 1)) G) := (M.hj _ _ _).trans (by kernel_rfl)
def hodmanref1_Log.f (M : Mach) (C : Call) (v0 : Int) (G : GH) : Option Res := hodmanref1_Log.L25 M C v0 1 0 G
theorem hodmanref1_Log.eq (M : Mach) (C : Call) (v0 : Int) (G : GH) : runF M C hodmanref1_Log.d [.c (.int .i64 v0)] G = hodmanref1_Log.f M C v0 G := by kernel_rfl

/- 44 hodman/hodmanref1.Up -/
def hodmanref1_Up.c6 : DCode := (.cond (.t 10) (.seq (.region [⟨0, some 2, .move (.k (.c (.int .i64 0))), none⟩,
    ⟨1, some 3, .move (.k (.c (.bool false))), none⟩]) .ret) .skip)
def hodmanref1_Up.c16 : DCode := (.seq (.seq (.region [⟨0, some 11, .move (.t 4), none⟩,
    ⟨1, some 12, .move (.t 0), none⟩,
    ⟨2, some 13, .cmp .lss .i64 (.t 11) (.t 12), none⟩]) (.cond (.t 13) .skip (.exit 0))) (.block 1 (.region [⟨0, some 14, .move (.t 4), none⟩,
    ⟨1, some 15, .bin .mul .i64 (.t 14) (.k (.c (.int .i64 2))), none⟩,
    ⟨2, some 4, .move (.t 15), none⟩])))
def hodmanref1_Up.c21 : DCode := (.seq (.region [⟨0, some 16, .move (.t 4), none⟩,
    ⟨1, some 2, .move (.t 16), none⟩,
    ⟨2, some 3, .move (.k (.c (.bool true))), none⟩]) .ret)
def hodmanref1_Up.c23 : DCode := (.seq (.region [⟨0, some 4, .move (.k (.c (.int .i64 1))), none⟩]) (.seq (.block 0 (.loop [0, 4] hodmanref1_Up.c16)) hodmanref1_Up.c21))
def hodmanref1_Up.d : DFn := { ntmps := 17, res := [.t 2, .t 3], body := (.seq (.region [⟨0, some 2, .move (.k (.c (.int .i64 0))), none⟩,
    ⟨1, some 3, .move (.k (.c (.bool false))), none⟩]) (.seq (.seq (.region [⟨0, some 5, .move (.t 0), none⟩,
    ⟨1, some 6, .cmp .lss .i64 (.t 5) (.k (.c (.int .i64 1))), none⟩,
    ⟨2, some 7, .move (.t 6), none⟩,
    ⟨3, some 8, .move (.t 0), some (7, false)⟩,
    ⟨4, some 9, .cmp .gtr .i64 (.t 8) (.k (.c (.int .i64 4611686018427387904))), some (7, false)⟩,
    ⟨5, some 10, .pick (.t 7) (.k (.c (.bool true))) (.t 9), none⟩]) (.cut [0, 10] hodmanref1_Up.c6)) hodmanref1_Up.c23)) }
def hodmanref1_Up.k23 (M : Mach) (C : Call) : Kont := execC M.j C (M.ag C) hodmanref1_Up.c23 ({ exits := [], ret := retK hodmanref1_Up.d } : Env) (retK hodmanref1_Up.d)
def hodmanref1_Up.J6 (M : Mach) (C : Call) (v0 : Int) (t10 : Bool) (G : GH) : Option Res := M.j (execC M.j C (M.ag C) hodmanref1_Up.c6 ({ exits := [], ret := retK hodmanref1_Up.d } : Env) (hodmanref1_Up.k23 M C)) [.v (.c (.int .i64 v0)), .und, .und, .und, .und, .und, .und, .und, .und, .und, .v (.c (.bool t10)), .und, .und, .und, .und, .und, .und] G
def hodmanref1_Up.k21 (M : Mach) (C : Call) : Kont := execC M.j C (M.ag C) hodmanref1_Up.c21 ({ exits := [], ret := retK hodmanref1_Up.d } : Env) (retK hodmanref1_Up.d)
def hodmanref1_Up.e18 (M : Mach) (C : Call) : Env := { exits := (0, (hodmanref1_Up.k21 M C)) :: (({ exits := [], ret := retK hodmanref1_Up.d } : Env)).exits, ret := (({ exits := [], ret := retK hodmanref1_Up.d } : Env)).ret }
def hodmanref1_Up.L17 (M : Mach) (C : Call) (v0 : Int) (p4 : Int) (G : GH) : Option Res := M.ag C [0, 4] hodmanref1_Up.c16 (hodmanref1_Up.e18 M C) (hodmanref1_Up.k21 M C) [.v (.c (.int .i64 v0)), .und, .und, .und, .v (.c (.int .i64 p4)), .und, .und, .und, .und, .und, .und, .und, .und, .und, .und, .und, .und] G
theorem hodmanref1_Up.J6_eq (M : Mach) (C : Call) (v0 : Int) (t10 : Bool) (G : GH) : hodmanref1_Up.J6 M C v0 t10 G = (bif t10 then some ([.c (.int .i64 0), .c (.bool false)], G) else hodmanref1_Up.L17 M C v0 1 G) := (M.hj _ _ _).trans (by kernel_rfl)
theorem hodmanref1_Up.L17_eq (M : Mach) (C : Call) (v0 : Int) (p4 : Int) (G : GH) : hodmanref1_Up.L17 M C v0 p4 G = (bif decide (p4 < v0) then hodmanref1_Up.L17 M C v0 (IntKind.i64.wrap (p4 * 2)) G else some ([.c (.int .i64 p4), .c (.bool true)], G)) := (M.hs _ _ _ _ _ _ _).trans (by kernel_rfl)
def hodmanref1_Up.f (M : Mach) (C : Call) (v0 : Int) (G : GH) : Option Res := bif decide (v0 < 1) then hodmanref1_Up.J6 M C v0 true G else hodmanref1_Up.J6 M C v0 (decide (v0 > 4611686018427387904)) G
theorem hodmanref1_Up.eq (M : Mach) (C : Call) (v0 : Int) (G : GH) : runF M C hodmanref1_Up.d [.c (.int .i64 v0)] G = hodmanref1_Up.f M C v0 G := by kernel_rfl

/- 61 hodman/hodmanref1.Add -/
def hodmanref1_Add.c6 : DCode := (.cond (.t 23) (.seq (.region [⟨0, some 4, .move (.k (.c (.int .i64 0))), none⟩,
    ⟨1, some 5, .move (.k (.c (.bool false))), none⟩]) .ret) .skip)
def hodmanref1_Add.c10 : DCode := (.seq (.region [⟨0, some 24, .move (.t 0), none⟩,
    ⟨1, some 25, .move (.t 1), none⟩,
    ⟨2, some 26, .bin .add .i64 (.t 24) (.t 25), none⟩,
    ⟨3, some 4, .move (.t 26), none⟩,
    ⟨4, some 5, .move (.k (.c (.bool true))), none⟩]) .ret)
def hodmanref1_Add.d : DFn := { ntmps := 27, res := [.t 4, .t 5], body := (.seq (.region [⟨0, some 4, .move (.k (.c (.int .i64 0))), none⟩,
    ⟨1, some 5, .move (.k (.c (.bool false))), none⟩]) (.seq (.seq (.region [⟨0, some 6, .move (.t 1), none⟩,
    ⟨1, some 7, .cmp .gtr .i64 (.t 6) (.k (.c (.int .i64 0))), none⟩,
    ⟨2, some 8, .move (.t 7), none⟩,
    ⟨3, some 9, .move (.t 0), some (8, true)⟩,
    ⟨4, some 10, .move (.t 1), some (8, true)⟩,
    ⟨5, some 11, .bin .sub .i64 (.k (.c (.int .i64 9223372036854775807))) (.t 10), some (8, true)⟩,
    ⟨6, some 12, .cmp .gtr .i64 (.t 9) (.t 11), some (8, true)⟩,
    ⟨7, some 13, .pick (.t 8) (.t 12) (.k (.c (.bool false))), none⟩,
    ⟨8, some 14, .move (.t 13), none⟩,
    ⟨9, some 15, .move (.t 1), some (14, false)⟩,
    ⟨10, some 16, .cmp .lss .i64 (.t 15) (.k (.c (.int .i64 0))), some (14, false)⟩,
    ⟨11, some 17, .move (.t 16), some (14, false)⟩,
    ⟨12, some 18, .move (.t 0), some (17, true)⟩,
    ⟨13, some 19, .move (.t 1), some (17, true)⟩,
    ⟨14, some 20, .bin .sub .i64 (.k (.c (.int .i64 (-9223372036854775808)))) (.t 19), some (17, true)⟩,
    ⟨15, some 21, .cmp .lss .i64 (.t 18) (.t 20), some (17, true)⟩,
    ⟨16, some 22, .pick (.t 17) (.t 21) (.k (.c (.bool false))), some (14, false)⟩,
    ⟨17, some 23, .pick (.t 14) (.k (.c (.bool true))) (.t 22), none⟩]) (.cut [0, 1, 23] hodmanref1_Add.c6)) hodmanref1_Add.c10)) }
def hodmanref1_Add.k10 (M : Mach) (C : Call) : Kont := execC M.j C (M.ag C) hodmanref1_Add.c10 ({ exits := [], ret := retK hodmanref1_Add.d } : Env) (retK hodmanref1_Add.d)
def hodmanref1_Add.J6 (M : Mach) (C : Call) (a0 : Int) (b1 : Int) (t23 : Bool) (G : GH) : Option Res := M.j (execC M.j C (M.ag C) hodmanref1_Add.c6 ({ exits := [], ret := retK hodmanref1_Add.d } : Env) (hodmanref1_Add.k10 M C)) [.v (.c (.int .i64 a0)), .v (.c (.int .i64 b1)), .und, .und, .und, .und, .und, .und, .und, .und, .und, .und, .und, .und, .und, .und, .und, .und, .und, .und, .und, .und, .und, .v (.c (.bool t23)), .und, .und, .und] G
theorem hodmanref1_Add.J6_eq (M : Mach) (C : Call) (a0 : Int) (b1 : Int) (t23 : Bool) (G : GH) : hodmanref1_Add.J6 M C a0 b1 t23 G = (bif t23 then some ([.c (.int .i64 0), .c (.bool false)], G) else some ([.c (.int .i64 (IntKind.i64.wrap (a0 + b1))), .c (.bool true)], G)) := (M.hj _ _ _).trans (by kernel_rfl)
def hodmanref1_Add.f (M : Mach) (C : Call) (a0 : Int) (b1 : Int) (G : GH) : Option Res := bif decide (b1 > 0) then bif decide (a0 > IntKind.i64.wrap (9223372036854775807 - b1)) then hodmanref1_Add.J6 M C a0 b1 true G else bif decide (b1 < 0) then hodmanref1_Add.J6 M C a0 b1 (decide (a0 < IntKind.i64.wrap ((-9223372036854775808) - b1))) G else hodmanref1_Add.J6 M C a0 b1 false G else bif decide (b1 < 0) then hodmanref1_Add.J6 M C a0 b1 (decide (a0 < IntKind.i64.wrap ((-9223372036854775808) - b1))) G else hodmanref1_Add.J6 M C a0 b1 false G
theorem hodmanref1_Add.eq (M : Mach) (C : Call) (a0 : Int) (b1 : Int) (G : GH) : runF M C hodmanref1_Add.d [.c (.int .i64 a0), .c (.int .i64 b1)] G = hodmanref1_Add.f M C a0 b1 G := by kernel_rfl

/- 45 hodman/hodmanref1.Round -/
def hodmanref1_Round.c6 : DCode := (.cond (.t 11) (.seq (.region [⟨0, some 4, .move (.k (.c (.int .i64 0))), none⟩,
    ⟨1, some 5, .move (.k (.c (.bool false))), none⟩]) .ret) .skip)
def hodmanref1_Round.c18 : DCode := (.seq (.seq (.region [⟨0, some 12, .move (.t 0), none⟩,
    ⟨1, some 13, .move (.t 1), none⟩,
    ⟨2, some 14, .bin .rem .i64 (.t 12) (.t 13), none⟩,
    ⟨3, some 15, .cmp .eql .i64 (.t 14) (.k (.c (.int .i64 0))), none⟩]) (.cond (.t 15) (.seq (.region [⟨0, some 16, .move (.t 0), none⟩,
    ⟨1, some 4, .move (.t 16), none⟩,
    ⟨2, some 5, .move (.k (.c (.bool true))), none⟩]) .ret) .skip)) (.seq (.region [⟨0, some 17, .move (.t 0), none⟩,
    ⟨1, some 18, .move (.t 0), none⟩,
    ⟨2, some 19, .move (.t 1), none⟩,
    ⟨3, some 20, .bin .rem .i64 (.t 18) (.t 19), none⟩,
    ⟨4, some 21, .bin .sub .i64 (.t 17) (.t 20), none⟩,
    ⟨5, some 22, .move (.t 1), none⟩,
    ⟨6, some 23, .call 61 [.t 21, .t 22] [.c (.int .i64), .c (.bool)], none⟩,
    ⟨7, some 24, .ext 23 0, none⟩,
    ⟨8, some 25, .ext 23 1, none⟩,
    ⟨9, some 4, .move (.t 24), none⟩,
    ⟨10, some 5, .move (.t 25), none⟩]) .ret))
def hodmanref1_Round.d : DFn := { ntmps := 26, res := [.t 4, .t 5], body := (.seq (.region [⟨0, some 4, .move (.k (.c (.int .i64 0))), none⟩,
    ⟨1, some 5, .move (.k (.c (.bool false))), none⟩]) (.seq (.seq (.region [⟨0, some 6, .move (.t 0), none⟩,
    ⟨1, some 7, .cmp .lss .i64 (.t 6) (.k (.c (.int .i64 0))), none⟩,
    ⟨2, some 8, .move (.t 7), none⟩,
    ⟨3, some 9, .move (.t 1), some (8, false)⟩,
    ⟨4, some 10, .cmp .lss .i64 (.t 9) (.k (.c (.int .i64 1))), some (8, false)⟩,
    ⟨5, some 11, .pick (.t 8) (.k (.c (.bool true))) (.t 10), none⟩]) (.cut [0, 1, 11] hodmanref1_Round.c6)) hodmanref1_Round.c18)) }
def hodmanref1_Round.k18 (M : Mach) (C : Call) : Kont := execC M.j C (M.ag C) hodmanref1_Round.c18 ({ exits := [], ret := retK hodmanref1_Round.d } : Env) (retK hodmanref1_Round.d)
def hodmanref1_Round.J6 (M : Mach) (C : Call) (v0 : Int) (to1 : Int) (t11 : Bool) (G : GH) : Option Res := M.j (execC M.j C (M.ag C) hodmanref1_Round.c6 ({ exits := [], ret := retK hodmanref1_Round.d } : Env) (hodmanref1_Round.k18 M C)) [.v (.c (.int .i64 v0)), .v (.c (.int .i64 to1)), .und, .und, .und, .und, .und, .und, .und, .und, .und, .v (.c (.bool t11)), .und, .und, .und, .und, .und, .und, .und, .und, .und, .und, .und, .und, .und, .und] G
theorem hodmanref1_Round.J6_eq (M : Mach) (C : Call) (v0 : Int) (to1 : Int) (t11 : Bool) (G : GH) : hodmanref1_Round.J6 M C v0 to1 t11 G = (bif t11 then some ([.c (.int .i64 0), .c (.bool false)], G) else (binD .rem .i64 v0 to1).bind fun qx_1 => bif decide (qx_1 = 0) then some ([.c (.int .i64 v0), .c (.bool true)], G) else (binD .rem .i64 v0 to1).bind fun qx_2 => (C hodmanref1_Add.id [.c (.int .i64 (IntKind.i64.wrap (v0 - qx_2))), .c (.int .i64 to1)] G).bind fun qr_3 => (((qr_3.1[0]?).bind V1.c?).bind (Cell.asI .i64)).bind fun qx_4 => (((qr_3.1[1]?).bind V1.c?).bind Cell.asB).bind fun qb_5 => some ([.c (.int .i64 qx_4), .c (.bool qb_5)], qr_3.2)) := (M.hj _ _ _).trans (by kernel_rfl)
def hodmanref1_Round.f (M : Mach) (C : Call) (v0 : Int) (to1 : Int) (G : GH) : Option Res := bif decide (v0 < 0) then hodmanref1_Round.J6 M C v0 to1 true G else hodmanref1_Round.J6 M C v0 to1 (decide (to1 < 1)) G
theorem hodmanref1_Round.eq (M : Mach) (C : Call) (v0 : Int) (to1 : Int) (G : GH) : runF M C hodmanref1_Round.d [.c (.int .i64 v0), .c (.int .i64 to1)] G = hodmanref1_Round.f M C v0 to1 G := by kernel_rfl

/- 50 hodman/conf.Ceil -/
def conf_Ceil.c6 : DCode := (.cond (.t 12) (.seq (.region [⟨0, some 4, .move (.k (.c (.int .i64 0))), none⟩]) .ret) .skip)
def conf_Ceil.c10 : DCode := (.seq (.region [⟨0, some 13, .faddr 2 2, none⟩,
    ⟨1, some 14, .ldL 13 21 (.c (.int .i64)), none⟩,
    ⟨2, some 15, .move (.t 1), none⟩,
    ⟨3, some 16, .faddr 2 2, none⟩,
    ⟨4, some 17, .ldL 16 21 (.c (.int .i64)), none⟩,
    ⟨5, some 18, .bin .shr .i64 (.t 17) (.k (.c (.int .u64 1))), none⟩,
    ⟨6, some 19, .bin .mul .i64 (.t 15) (.t 18), none⟩,
    ⟨7, some 20, .bin .add .i64 (.t 14) (.t 19), none⟩,
    ⟨8, some 4, .move (.t 20), none⟩]) .ret)
def conf_Ceil.d : DFn := { ntmps := 22, res := [.t 4], body := (.seq (.region [⟨0, some 2, .boxv 21 [9, 13, 16] (.t 0) 8, none⟩,
    ⟨1, some 4, .move (.k (.c (.int .i64 0))), none⟩]) (.seq (.seq (.region [⟨0, some 5, .move (.t 1), none⟩,
    ⟨1, some 6, .cmp .lss .i64 (.t 5) (.k (.c (.int .i64 0))), none⟩,
    ⟨2, some 7, .move (.t 6), none⟩,
    ⟨3, some 8, .move (.t 1), some (7, false)⟩,
    ⟨4, some 9, .faddr 2 3, some (7, false)⟩,
    ⟨5, some 10, .ldL 9 21 (.c (.int .i64)), some (7, false)⟩,
    ⟨6, some 11, .cmp .gtr .i64 (.t 8) (.t 10), some (7, false)⟩,
    ⟨7, some 12, .pick (.t 7) (.k (.c (.bool true))) (.t 11), none⟩]) (.cut [1, 2, 12, 21] conf_Ceil.c6)) conf_Ceil.c10)) }
def conf_Ceil.k10 (M : Mach) (C : Call) : Kont := execC M.j C (M.ag C) conf_Ceil.c10 ({ exits := [], ret := retK conf_Ceil.d } : Env) (retK conf_Ceil.d)
def conf_Ceil.J6 (M : Mach) (C : Call) (class1 : Int) (t12 : Bool) (c21_0 : Int) (c21_1 : Int) (c21_2 : Int) (c21_3 : Int) (c21_4 : Int) (c21_5 : Int) (c21_6 : Int) (c21_7 : Int) (G : GH) : Option Res := M.j (execC M.j C (M.ag C) conf_Ceil.c6 ({ exits := [], ret := retK conf_Ceil.d } : Env) (conf_Ceil.k10 M C)) [.und, .v (.c (.int .i64 class1)), .ref 21 0, .und, .und, .und, .und, .und, .und, .und, .und, .und, .v (.c (.bool t12)), .und, .und, .und, .und, .und, .und, .und, .und, .box [.int .i64 c21_0, .int .i64 c21_1, .int .i64 c21_2, .int .i64 c21_3, .int .i64 c21_4, .int .i64 c21_5, .int .i64 c21_6, .int .i64 c21_7]] G
theorem conf_Ceil.J6_eq (M : Mach) (C : Call) (class1 : Int) (t12 : Bool) (c21_0 : Int) (c21_1 : Int) (c21_2 : Int) (c21_3 : Int) (c21_4 : Int) (c21_5 : Int) (c21_6 : Int) (c21_7 : Int) (G : GH) : conf_Ceil.J6 M C class1 t12 c21_0 c21_1 c21_2 c21_3 c21_4 c21_5 c21_6 c21_7 G = (bif t12 then some ([.c (.int .i64 0)], G) else some ([.c (.int .i64 (IntKind.i64.wrap (c21_2 + (IntKind.i64.wrap (class1 * (Int.fdiv c21_2 (2 ^ (min (1 : Int).toNat IntKind.i64.bits))))))))], G)) := (M.hj _ _ _).trans (by kernel_rfl)
def conf_Ceil.f (M : Mach) (C : Call) (c0_0 : Int) (c0_1 : Int) (c0_2 : Int) (c0_3 : Int) (c0_4 : Int) (c0_5 : Int) (c0_6 : Int) (c0_7 : Int) (class1 : Int) (G : GH) : Option Res := bif decide (class1 < 0) then conf_Ceil.J6 M C class1 true c0_0 c0_1 c0_2 c0_3 c0_4 c0_5 c0_6 c0_7 G else conf_Ceil.J6 M C class1 (decide (class1 > c0_3)) c0_0 c0_1 c0_2 c0_3 c0_4 c0_5 c0_6 c0_7 G
theorem conf_Ceil.eq (M : Mach) (C : Call) (c0_0 : Int) (c0_1 : Int) (c0_2 : Int) (c0_3 : Int) (c0_4 : Int) (c0_5 : Int) (c0_6 : Int) (c0_7 : Int) (class1 : Int) (G : GH) : runF M C conf_Ceil.d [.agg [.int .i64 c0_0, .int .i64 c0_1, .int .i64 c0_2, .int .i64 c0_3, .int .i64 c0_4, .int .i64 c0_5, .int .i64 c0_6, .int .i64 c0_7], .c (.int .i64 class1)] G = conf_Ceil.f M C c0_0 c0_1 c0_2 c0_3 c0_4 c0_5 c0_6 c0_7 class1 G := by kernel_rfl

/- 53 hodman/tight.may -/
def tight_may.d : DFn := { ntmps := 37, res := [.t 2], body := (.seq (.region [⟨0, some 1, .boxv 36 [3, 7, 12, 17, 22, 27, 32] (.t 0) 8, none⟩,
    ⟨1, some 2, .move (.k (.c (.bool false))), none⟩]) (.seq (.region [⟨0, some 3, .faddr 1 0, none⟩,
    ⟨1, some 4, .ldL 3 36 (.c (.int .i64)), none⟩,
    ⟨2, some 5, .cmp .geq .i64 (.t 4) (.k (.c (.int .i64 1))), none⟩,
    ⟨3, some 6, .move (.t 5), none⟩,
    ⟨4, some 7, .faddr 1 0, some (6, true)⟩,
    ⟨5, some 8, .ldL 7 36 (.c (.int .i64)), some (6, true)⟩,
    ⟨6, some 9, .cmp .leq .i64 (.t 8) (.k (.c (.int .i64 65536))), some (6, true)⟩,
    ⟨7, some 10, .pick (.t 6) (.t 9) (.k (.c (.bool false))), none⟩,
    ⟨8, some 11, .move (.t 10), none⟩,
    ⟨9, some 12, .faddr 1 2, some (11, true)⟩,
    ⟨10, some 13, .ldL 12 36 (.c (.int .i64)), some (11, true)⟩,
    ⟨11, some 14, .cmp .geq .i64 (.t 13) (.k (.c (.int .i64 1))), some (11, true)⟩,
    ⟨12, some 15, .pick (.t 11) (.t 14) (.k (.c (.bool false))), none⟩,
    ⟨13, some 16, .move (.t 15), none⟩,
    ⟨14, some 17, .faddr 1 2, some (16, true)⟩,
    ⟨15, some 18, .ldL 17 36 (.c (.int .i64)), some (16, true)⟩,
    ⟨16, some 19, .cmp .leq .i64 (.t 18) (.k (.c (.int .i64 65536))), some (16, true)⟩,
    ⟨17, some 20, .pick (.t 16) (.t 19) (.k (.c (.bool false))), none⟩,
    ⟨18, some 21, .move (.t 20), none⟩,
    ⟨19, some 22, .faddr 1 3, some (21, true)⟩,
    ⟨20, some 23, .ldL 22 36 (.c (.int .i64)), some (21, true)⟩,
    ⟨21, some 24, .cmp .geq .i64 (.t 23) (.k (.c (.int .i64 0))), some (21, true)⟩,
    ⟨22, some 25, .pick (.t 21) (.t 24) (.k (.c (.bool false))), none⟩,
    ⟨23, some 26, .move (.t 25), none⟩,
    ⟨24, some 27, .faddr 1 3, some (26, true)⟩,
    ⟨25, some 28, .ldL 27 36 (.c (.int .i64)), some (26, true)⟩,
    ⟨26, some 29, .cmp .leq .i64 (.t 28) (.k (.c (.int .i64 16))), some (26, true)⟩,
    ⟨27, some 30, .pick (.t 26) (.t 29) (.k (.c (.bool false))), none⟩,
    ⟨28, some 31, .move (.t 30), none⟩,
    ⟨29, some 32, .faddr 1 6, some (31, true)⟩,
    ⟨30, some 33, .ldL 32 36 (.c (.int .i64)), some (31, true)⟩,
    ⟨31, some 34, .cmp .leq .i64 (.t 33) (.k (.c (.int .i64 65536))), some (31, true)⟩,
    ⟨32, some 35, .pick (.t 31) (.t 34) (.k (.c (.bool false))), none⟩,
    ⟨33, some 2, .move (.t 35), none⟩]) .ret)) }
def tight_may.f (M : Mach) (C : Call) (c0_0 : Int) (c0_1 : Int) (c0_2 : Int) (c0_3 : Int) (c0_4 : Int) (c0_5 : Int) (c0_6 : Int) (c0_7 : Int) (G : GH) : Option Res := bif decide (c0_0 ≥ 1) then bif decide (c0_0 ≤ 65536) then bif decide (c0_2 ≥ 1) then bif decide (c0_2 ≤ 65536) then bif decide (c0_3 ≥ 0) then bif decide (c0_3 ≤ 16) then some ([.c (.bool (decide (c0_6 ≤ 65536)))], G) else some ([.c (.bool false)], G) else some ([.c (.bool false)], G) else some ([.c (.bool false)], G) else some ([.c (.bool false)], G) else some ([.c (.bool false)], G) else some ([.c (.bool false)], G)
theorem tight_may.eq (M : Mach) (C : Call) (c0_0 : Int) (c0_1 : Int) (c0_2 : Int) (c0_3 : Int) (c0_4 : Int) (c0_5 : Int) (c0_6 : Int) (c0_7 : Int) (G : GH) : runF M C tight_may.d [.agg [.int .i64 c0_0, .int .i64 c0_1, .int .i64 c0_2, .int .i64 c0_3, .int .i64 c0_4, .int .i64 c0_5, .int .i64 c0_6, .int .i64 c0_7]] G = tight_may.f M C c0_0 c0_1 c0_2 c0_3 c0_4 c0_5 c0_6 c0_7 G := by kernel_rfl

/- 16 hodman/tight.Stages -/
def tight_Stages.d : DFn := { ntmps := 9, res := [.t 2], body := (.seq (.region [⟨0, some 1, .boxv 8 [] (.t 0) 8, none⟩,
    ⟨1, some 2, .move (.k (.c (.sl 1 0 0 0))), none⟩]) (.seq (.region [⟨0, some 3, .ldL 1 8 (.agg [.int .i64, .int .i64, .int .i64, .int .i64, .int .i64, .int .i64, .int .i64, .int .i64]), none⟩,
    ⟨1, some 4, .call 36 [.t 3] [.c (.ptr)], none⟩,
    ⟨2, some 5, .nilck (.t 4), none⟩,
    ⟨3, some 6, .faddr 5 11, none⟩,
    ⟨4, some 7, .ldG 6 (.c (.sl 1)), none⟩,
    ⟨5, some 2, .move (.t 7), none⟩]) .ret)) }
def tight_Stages.f (M : Mach) (C : Call) (c0_0 : Int) (c0_1 : Int) (c0_2 : Int) (c0_3 : Int) (c0_4 : Int) (c0_5 : Int) (c0_6 : Int) (c0_7 : Int) (G : GH) : Option Res := (C tight_all.id [.agg [.int .i64 c0_0, .int .i64 c0_1, .int .i64 c0_2, .int .i64 c0_3, .int .i64 c0_4, .int .i64 c0_5, .int .i64 c0_6, .int .i64 c0_7]] G).bind fun qr_1 => (((qr_1.1[0]?).bind V1.c?).bind Cell.asP).bind fun qp_2 => guardK (!Nat.beq qp_2.1 0) (((qr_1.2.ld qp_2.1 (qp_2.2 + 11)).bind (Cell.asS 1)).bind fun qs_3 => some ([.c (.sl 1 qs_3.1 qs_3.2.1 qs_3.2.2)], qr_1.2))
theorem tight_Stages.eq (M : Mach) (C : Call) (c0_0 : Int) (c0_1 : Int) (c0_2 : Int) (c0_3 : Int) (c0_4 : Int) (c0_5 : Int) (c0_6 : Int) (c0_7 : Int) (G : GH) : runF M C tight_Stages.d [.agg [.int .i64 c0_0, .int .i64 c0_1, .int .i64 c0_2, .int .i64 c0_3, .int .i64 c0_4, .int .i64 c0_5, .int .i64 c0_6, .int .i64 c0_7]] G = tight_Stages.f M C c0_0 c0_1 c0_2 c0_3 c0_4 c0_5 c0_6 c0_7 G := by kernel_rfl

/- 18 hodman/tight.Script -/
def tight_Script.d : DFn := { ntmps := 9, res := [.t 2], body := (.seq (.region [⟨0, some 1, .boxv 8 [] (.t 0) 8, none⟩,
    ⟨1, some 2, .move (.k (.c (.sl 6 0 0 0))), none⟩]) (.seq (.region [⟨0, some 3, .ldL 1 8 (.agg [.int .i64, .int .i64, .int .i64, .int .i64, .int .i64, .int .i64, .int .i64, .int .i64]), none⟩,
    ⟨1, some 4, .call 36 [.t 3] [.c (.ptr)], none⟩,
    ⟨2, some 5, .nilck (.t 4), none⟩,
    ⟨3, some 6, .faddr 5 8, none⟩,
    ⟨4, some 7, .ldG 6 (.c (.sl 6)), none⟩,
    ⟨5, some 2, .move (.t 7), none⟩]) .ret)) }
def tight_Script.f (M : Mach) (C : Call) (c0_0 : Int) (c0_1 : Int) (c0_2 : Int) (c0_3 : Int) (c0_4 : Int) (c0_5 : Int) (c0_6 : Int) (c0_7 : Int) (G : GH) : Option Res := (C tight_all.id [.agg [.int .i64 c0_0, .int .i64 c0_1, .int .i64 c0_2, .int .i64 c0_3, .int .i64 c0_4, .int .i64 c0_5, .int .i64 c0_6, .int .i64 c0_7]] G).bind fun qr_1 => (((qr_1.1[0]?).bind V1.c?).bind Cell.asP).bind fun qp_2 => guardK (!Nat.beq qp_2.1 0) (((qr_1.2.ld qp_2.1 (qp_2.2 + 8)).bind (Cell.asS 6)).bind fun qs_3 => some ([.c (.sl 6 qs_3.1 qs_3.2.1 qs_3.2.2)], qr_1.2))
theorem tight_Script.eq (M : Mach) (C : Call) (c0_0 : Int) (c0_1 : Int) (c0_2 : Int) (c0_3 : Int) (c0_4 : Int) (c0_5 : Int) (c0_6 : Int) (c0_7 : Int) (G : GH) : runF M C tight_Script.d [.agg [.int .i64 c0_0, .int .i64 c0_1, .int .i64 c0_2, .int .i64 c0_3, .int .i64 c0_4, .int .i64 c0_5, .int .i64 c0_6, .int .i64 c0_7]] G = tight_Script.f M C c0_0 c0_1 c0_2 c0_3 c0_4 c0_5 c0_6 c0_7 G := by kernel_rfl
end Go.Proofs.D
