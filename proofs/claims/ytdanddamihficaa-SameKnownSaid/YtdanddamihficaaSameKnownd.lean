/- Texts of the proof (T2); no condition. -/
import Derived.Test.YtdanddamihficaaSameKnowna
import Derived.KernelRfl
set_option linter.unusedSimpArgs false
set_option linter.unusedVariables false
set_option linter.unusedVariables false
set_option maxRecDepth 100000
namespace Go.Proofs.D
open Go
/- 50 hodman/hodmanref17.place -/
def hodmanref17_place.c30 : DCode := (.seq (.seq (.region [⟨0, some 66, .move (.t 18), none⟩,
    ⟨1, some 67, .move (.t 16), none⟩,
    ⟨2, some 68, .len (.t 67), none⟩,
    ⟨3, some 69, .cmp .lss .i64 (.t 66) (.t 68), none⟩]) (.cond (.t 69) .skip (.exit 0))) (.seq (.block 1 (.region [⟨0, some 72, .faddr 17 13, none⟩,
    ⟨1, some 73, .ldL 72 128 (.c (.sl 1)), none⟩,
    ⟨2, some 74, .faddr 4 0, none⟩,
    ⟨3, some 75, .faddr 74 7, none⟩,
    ⟨4, some 76, .ldL 75 126 (.c (.int .i64)), none⟩,
    ⟨5, some 77, .move (.t 16), none⟩,
    ⟨6, some 78, .move (.t 18), none⟩,
    ⟨7, some 79, .iaddr (.t 77) (.t 78) 1, none⟩,
    ⟨8, some 80, .ldG 79 (.c (.int .i64)), none⟩,
    ⟨9, some 81, .faddr 4 0, none⟩,
    ⟨10, some 82, .faddr 81 4, none⟩,
    ⟨11, some 83, .ldL 82 126 (.c (.int .i64)), none⟩,
    ⟨12, some 84, .call 66 [.t 73, .t 76, .t 80, .t 83] [.c (.sl 1)], none⟩,
    ⟨13, some 85, .faddr 17 13, none⟩,
    ⟨14, none, .stL 85 128 (.t 84) 1, none⟩])) (.region [⟨0, some 70, .move (.t 18), none⟩,
    ⟨1, some 71, .bin .add .i64 (.t 70) (.k (.c (.int .i64 1))), none⟩,
    ⟨2, some 18, .move (.t 71), none⟩])))
def hodmanref17_place.c46 : DCode := (.seq (.seq (.region [⟨0, some 94, .move (.t 19), none⟩,
    ⟨1, some 95, .faddr 17 8, none⟩,
    ⟨2, some 96, .ldL 95 128 (.c (.sl 3)), none⟩,
    ⟨3, some 97, .len (.t 96), none⟩,
    ⟨4, some 98, .cmp .lss .i64 (.t 94) (.t 97), none⟩]) (.cond (.t 98) .skip (.exit 2))) (.seq (.block 3 (.region [⟨0, some 101, .faddr 17 9, none⟩,
    ⟨1, some 102, .ldL 101 128 (.c (.int .i64)), none⟩,
    ⟨2, some 103, .faddr 17 8, none⟩,
    ⟨3, some 104, .ldL 103 128 (.c (.sl 3)), none⟩,
    ⟨4, some 105, .move (.t 19), none⟩,
    ⟨5, some 106, .iaddr (.t 104) (.t 105) 3, none⟩,
    ⟨6, some 107, .faddr 106 1, none⟩,
    ⟨7, some 108, .ldG 107 (.c (.int .i64)), none⟩,
    ⟨8, some 109, .bin .add .i64 (.t 102) (.t 108), none⟩,
    ⟨9, some 110, .faddr 17 9, none⟩,
    ⟨10, none, .stL 110 128 (.t 109) 1, none⟩])) (.region [⟨0, some 99, .move (.t 19), none⟩,
    ⟨1, some 100, .bin .add .i64 (.t 99) (.k (.c (.int .i64 1))), none⟩,
    ⟨2, some 19, .move (.t 100), none⟩])))
def hodmanref17_place.c54 : DCode := (.seq (.region [⟨0, some 111, .faddr 17 10, none⟩,
    ⟨1, some 112, .ldL 111 128 (.c (.int .i64)), none⟩,
    ⟨2, some 113, .faddr 17 9, none⟩,
    ⟨3, some 114, .ldL 113 128 (.c (.int .i64)), none⟩,
    ⟨4, some 115, .mx (.t 112) [.t 114], none⟩,
    ⟨5, some 116, .faddr 17 11, none⟩,
    ⟨6, some 117, .ldL 116 128 (.c (.int .i64)), none⟩,
    ⟨7, some 118, .move (.t 11), none⟩,
    ⟨8, some 119, .move (.t 2), none⟩,
    ⟨9, some 120, .bin .add .i64 (.t 118) (.t 119), none⟩,
    ⟨10, some 121, .mx (.t 117) [.t 120], none⟩,
    ⟨11, some 122, .faddr 17 10, none⟩,
    ⟨12, none, .stL 122 128 (.t 115) 1, none⟩,
    ⟨13, some 123, .faddr 17 11, none⟩,
    ⟨14, none, .stL 123 128 (.t 121) 1, none⟩]) (.seq (.region [⟨0, some 124, .ldL 17 128 (.agg [.int .i64, .int .i64, .int .i64, .int .i64, .int .i64, .int .i64, .int .i64, .int .i64, .sl 3, .int .i64, .int .i64, .int .i64, .sl 1, .sl 1]), none⟩,
    ⟨1, some 125, .move (.t 11), none⟩,
    ⟨2, none, .stL 8 127 (.t 124) 14, none⟩,
    ⟨3, some 9, .move (.t 125), none⟩,
    ⟨4, some 10, .move (.k (.c (.int .i64 0))), none⟩]) .ret))
def hodmanref17_place.c57 : DCode := (.seq (.region [⟨0, some 86, .move (.t 1), none⟩,
    ⟨1, some 87, .move (.t 11), none⟩,
    ⟨2, some 88, .move (.t 2), none⟩,
    ⟨3, some 89, .move (.t 3), none⟩,
    ⟨4, some 90, .build [.int .i64 0, .int .i64 0, .int .i64 0] [(0, 1, .t 87), (1, 1, .t 88), (2, 1, .t 89)], none⟩,
    ⟨5, some 91, .call 67 [.t 86, .t 90] [.c (.sl 3)], none⟩,
    ⟨6, some 92, .faddr 17 8, none⟩,
    ⟨7, none, .stL 92 128 (.t 91) 1, none⟩]) (.seq (.region [⟨0, some 93, .faddr 17 9, none⟩,
    ⟨1, none, .stL 93 128 (.k (.c (.int .i64 0))) 1, none⟩]) (.seq (.seq (.region [⟨0, some 19, .move (.k (.c (.int .i64 0))), none⟩]) (.block 2 (.loop [2, 8, 11, 17, 19, 127, 128] hodmanref17_place.c46))) hodmanref17_place.c54)))
def hodmanref17_place.d : DFn := { ntmps := 129, res := [.box 8 (some 14), .t 9, .t 10], body := (.seq (.region [⟨0, some 4, .boxv 126 [21, 32, 33, 41, 43, 44, 46, 47, 53, 54, 74, 75, 81, 82] (.t 0) 14, none⟩,
    ⟨1, some 8, .boxz 127 [] [.int .i64 0, .int .i64 0, .int .i64 0, .int .i64 0, .int .i64 0, .int .i64 0, .int .i64 0, .int .i64 0, .sl 3 0 0 0, .int .i64 0, .int .i64 0, .int .i64 0, .sl 1 0 0 0, .sl 1 0 0 0], none⟩,
    ⟨2, some 9, .move (.k (.c (.int .i64 0))), none⟩,
    ⟨3, some 10, .move (.k (.c (.int .i64 0))), none⟩]) (.seq (.region [⟨0, some 21, .faddr 4 0, none⟩,
    ⟨1, some 22, .ldL 21 126 (.agg [.int .i64, .int .i64, .int .i64, .int .i64, .int .i64, .int .i64, .int .i64, .int .i64]), none⟩,
    ⟨2, some 23, .move (.t 1), none⟩,
    ⟨3, some 24, .move (.t 2), none⟩,
    ⟨4, some 25, .call 63 [.t 22, .t 23, .t 24] [.c (.int .i64), .c (.bool)], none⟩,
    ⟨5, some 20, .move (.t 25), none⟩,
    ⟨6, some 26, .ext 20 0, none⟩,
    ⟨7, some 27, .ext 20 1, none⟩,
    ⟨8, some 11, .move (.t 26), none⟩,
    ⟨9, some 12, .move (.t 27), none⟩]) (.seq (.seq (.region [⟨0, some 28, .move (.t 12), none⟩,
    ⟨1, some 29, .not (.t 28), none⟩]) (.cond (.t 29) (.seq (.region [⟨0, some 30, .ldL 4 126 (.agg [.int .i64, .int .i64, .int .i64, .int .i64, .int .i64, .int .i64, .int .i64, .int .i64, .sl 3, .int .i64, .int .i64, .int .i64, .sl 1, .sl 1]), none⟩,
    ⟨1, none, .stL 8 127 (.t 30) 14, none⟩,
    ⟨2, some 9, .move (.k (.c (.int .i64 0))), none⟩,
    ⟨3, some 10, .move (.k (.c (.int .i64 7))), none⟩]) .ret) .skip)) (.seq (.region [⟨0, some 32, .faddr 4 0, none⟩,
    ⟨1, some 33, .faddr 32 4, none⟩,
    ⟨2, some 34, .ldL 33 126 (.c (.int .i64)), none⟩,
    ⟨3, some 35, .move (.t 11), none⟩,
    ⟨4, some 36, .move (.t 2), none⟩,
    ⟨5, some 37, .call 64 [.t 34, .t 35, .t 36] [.c (.int .i64), .c (.int .i64)], none⟩,
    ⟨6, some 31, .move (.t 37), none⟩,
    ⟨7, some 38, .ext 31 0, none⟩,
    ⟨8, some 39, .ext 31 1, none⟩,
    ⟨9, some 13, .move (.t 38), none⟩,
    ⟨10, some 14, .move (.t 39), none⟩]) (.seq (.region [⟨0, some 41, .faddr 4 12, none⟩,
    ⟨1, some 42, .ldL 41 126 (.c (.sl 1)), none⟩,
    ⟨2, some 43, .faddr 4 0, none⟩,
    ⟨3, some 44, .faddr 43 4, none⟩,
    ⟨4, some 45, .ldL 44 126 (.c (.int .i64)), none⟩,
    ⟨5, some 46, .faddr 4 0, none⟩,
    ⟨6, some 47, .faddr 46 6, none⟩,
    ⟨7, some 48, .ldL 47 126 (.c (.int .i64)), none⟩,
    ⟨8, some 49, .move (.t 1), none⟩,
    ⟨9, some 50, .call 33 [.t 45, .t 48, .t 49] [.c (.sl 1)], none⟩,
    ⟨10, some 51, .move (.t 13), none⟩,
    ⟨11, some 52, .move (.t 14), none⟩,
    ⟨12, some 53, .faddr 4 0, none⟩,
    ⟨13, some 54, .faddr 53 5, none⟩,
    ⟨14, some 55, .ldL 54 126 (.c (.int .i64)), none⟩,
    ⟨15, some 56, .call 65 [.t 42, .t 50, .t 51, .t 52, .t 55] [.c (.sl 1), .c (.sl 1), .c (.bool)], none⟩,
    ⟨16, some 40, .move (.t 56), none⟩,
    ⟨17, some 57, .ext 40 0, none⟩,
    ⟨18, some 58, .ext 40 1, none⟩,
    ⟨19, some 59, .ext 40 2, none⟩,
    ⟨20, some 15, .move (.t 57), none⟩,
    ⟨21, some 16, .move (.t 58), none⟩,
    ⟨22, some 12, .move (.t 59), none⟩]) (.seq (.seq (.region [⟨0, some 60, .move (.t 12), none⟩,
    ⟨1, some 61, .not (.t 60), none⟩]) (.cond (.t 61) (.seq (.region [⟨0, some 62, .ldL 4 126 (.agg [.int .i64, .int .i64, .int .i64, .int .i64, .int .i64, .int .i64, .int .i64, .int .i64, .sl 3, .int .i64, .int .i64, .int .i64, .sl 1, .sl 1]), none⟩,
    ⟨1, none, .stL 8 127 (.t 62) 14, none⟩,
    ⟨2, some 9, .move (.k (.c (.int .i64 0))), none⟩,
    ⟨3, some 10, .move (.k (.c (.int .i64 6))), none⟩]) .ret) .skip)) (.seq (.region [⟨0, some 63, .ldL 4 126 (.agg [.int .i64, .int .i64, .int .i64, .int .i64, .int .i64, .int .i64, .int .i64, .int .i64, .sl 3, .int .i64, .int .i64, .int .i64, .sl 1, .sl 1]), none⟩,
    ⟨1, some 17, .boxz 128 [65, 72, 85, 92, 93, 95, 101, 103, 110, 111, 113, 116, 122, 123] [.int .i64 0, .int .i64 0, .int .i64 0, .int .i64 0, .int .i64 0, .int .i64 0, .int .i64 0, .int .i64 0, .sl 3 0 0 0, .int .i64 0, .int .i64 0, .int .i64 0, .sl 1 0 0 0, .sl 1 0 0 0], none⟩,
    ⟨2, none, .stL 17 128 (.t 63) 14, none⟩]) (.seq (.region [⟨0, some 64, .move (.t 15), none⟩,
    ⟨1, some 65, .faddr 17 12, none⟩,
    ⟨2, none, .stL 65 128 (.t 64) 1, none⟩]) (.seq (.seq (.region [⟨0, some 18, .move (.k (.c (.int .i64 0))), none⟩]) (.block 0 (.loop [1, 2, 3, 4, 8, 11, 16, 17, 18, 126, 127, 128] hodmanref17_place.c30))) hodmanref17_place.c57))))))))) }
def hodmanref17_place.k57 (M : Mach) (C : Call) : Kont := execC M.j C (M.ag C) hodmanref17_place.c57 ({ exits := [], ret := retK hodmanref17_place.d } : Env) (retK hodmanref17_place.d)
def hodmanref17_place.e32 (M : Mach) (C : Call) : Env := { exits := (0, (hodmanref17_place.k57 M C)) :: (({ exits := [], ret := retK hodmanref17_place.d } : Env)).exits, ret := (({ exits := [], ret := retK hodmanref17_place.d } : Env)).ret }
def hodmanref17_place.L31 (M : Mach) (C : Call) (l1i : Nat) (l1o : Nat) (l1n : Nat) (charge2 : Int) (asked3 : Int) (at11 : Int) (fresh16i : Nat) (fresh16o : Nat) (fresh16n : Nat) (i18 : Int) (m126_0 : Int) (m126_1 : Int) (m126_2 : Int) (m126_3 : Int) (m126_4 : Int) (m126_5 : Int) (m126_6 : Int) (m126_7 : Int) (m126_8i : Nat) (m126_8o : Nat) (m126_8n : Nat) (m126_9 : Int) (m126_10 : Int) (m126_11 : Int) (m126_12i : Nat) (m126_12o : Nat) (m126_12n : Nat) (m126_13i : Nat) (m126_13o : Nat) (m126_13n : Nat) (x127_0 : Int) (x127_1 : Int) (x127_2 : Int) (x127_3 : Int) (x127_4 : Int) (x127_5 : Int) (x127_6 : Int) (x127_7 : Int) (x127_8i : Nat) (x127_8o : Nat) (x127_8n : Nat) (x127_9 : Int) (x127_10 : Int) (x127_11 : Int) (x127_12i : Nat) (x127_12o : Nat) (x127_12n : Nat) (x127_13i : Nat) (x127_13o : Nat) (x127_13n : Nat) (x128_0 : Int) (x128_1 : Int) (x128_2 : Int) (x128_3 : Int) (x128_4 : Int) (x128_5 : Int) (x128_6 : Int) (x128_7 : Int) (x128_8i : Nat) (x128_8o : Nat) (x128_8n : Nat) (x128_9 : Int) (x128_10 : Int) (x128_11 : Int) (x128_12i : Nat) (x128_12o : Nat) (x128_12n : Nat) (x128_13i : Nat) (x128_13o : Nat) (x128_13n : Nat) (G : GH) : Option Res := M.ag C [1, 2, 3, 4, 8, 11, 16, 17, 18, 126, 127, 128] hodmanref17_place.c30 (hodmanref17_place.e32 M C) (hodmanref17_place.k57 M C) [.und, .v (.c (.sl 3 l1i l1o l1n)), .v (.c (.int .i64 charge2)), .v (.c (.int .i64 asked3)), .ref 126 0, .und, .und, .und, .ref 127 0, .und, .und, .v (.c (.int .i64 at11)), .und, .und, .und, .und, .v (.c (.sl 1 fresh16i fresh16o fresh16n)), .ref 128 0, .v (.c (.int .i64 i18)), .und, .und, .und, .und, .und, .und, .und, .und, .und, .und, .und, .und, .und, .und, .und, .und, .und, .und, .und, .und, .und, .und, .und, .und, .und, .und, .und, .und, .und, .und, .und, .und, .und, .und, .und, .und, .und, .und, .und, .und, .und, .und, .und, .und, .und, .und, .und, .und, .und, .und, .und, .und, .und, .und, .und, .und, .und, .und, .und, .und, .und, .und, .und, .und, .und, .und, .und, .und, .und, .und, .und, .und, .und, .und, .und, .und, .und, .und, .und, .und, .und, .und, .und, .und, .und, .und, .und, .und, .und, .und, .und, .und, .und, .und, .und, .und, .und, .und, .und, .und, .und, .und, .und, .und, .und, .und, .und, .box [.int .i64 m126_0, .int .i64 m126_1, .int .i64 m126_2, .int .i64 m126_3, .int .i64 m126_4, .int .i64 m126_5, .int .i64 m126_6, .int .i64 m126_7, .sl 3 m126_8i m126_8o m126_8n, .int .i64 m126_9, .int .i64 m126_10, .int .i64 m126_11, .sl 1 m126_12i m126_12o m126_12n, .sl 1 m126_13i m126_13o m126_13n], .box [.int .i64 x127_0, .int .i64 x127_1, .int .i64 x127_2, .int .i64 x127_3, .int .i64 x127_4, .int .i64 x127_5, .int .i64 x127_6, .int .i64 x127_7, .sl 3 x127_8i x127_8o x127_8n, .int .i64 x127_9, .int .i64 x127_10, .int .i64 x127_11, .sl 1 x127_12i x127_12o x127_12n, .sl 1 x127_13i x127_13o x127_13n], .box [.int .i64 x128_0, .int .i64 x128_1, .int .i64 x128_2, .int .i64 x128_3, .int .i64 x128_4, .int .i64 x128_5, .int .i64 x128_6, .int .i64 x128_7, .sl 3 x128_8i x128_8o x128_8n, .int .i64 x128_9, .int .i64 x128_10, .int .i64 x128_11, .sl 1 x128_12i x128_12o x128_12n, .sl 1 x128_13i x128_13o x128_13n]] G
def hodmanref17_place.k54 (M : Mach) (C : Call) : Kont := execC M.j C (M.ag C) hodmanref17_place.c54 ({ exits := [], ret := retK hodmanref17_place.d } : Env) (retK hodmanref17_place.d)
def hodmanref17_place.e48 (M : Mach) (C : Call) : Env := { exits := (2, (hodmanref17_place.k54 M C)) :: (({ exits := [], ret := retK hodmanref17_place.d } : Env)).exits, ret := (({ exits := [], ret := retK hodmanref17_place.d } : Env)).ret }
def hodmanref17_place.L47 (M : Mach) (C : Call) (charge2 : Int) (at11 : Int) (i19 : Int) (x127_0 : Int) (x127_1 : Int) (x127_2 : Int) (x127_3 : Int) (x127_4 : Int) (x127_5 : Int) (x127_6 : Int) (x127_7 : Int) (x127_8i : Nat) (x127_8o : Nat) (x127_8n : Nat) (x127_9 : Int) (x127_10 : Int) (x127_11 : Int) (x127_12i : Nat) (x127_12o : Nat) (x127_12n : Nat) (x127_13i : Nat) (x127_13o : Nat) (x127_13n : Nat) (x128_0 : Int) (x128_1 : Int) (x128_2 : Int) (x128_3 : Int) (x128_4 : Int) (x128_5 : Int) (x128_6 : Int) (x128_7 : Int) (x128_8i : Nat) (x128_8o : Nat) (x128_8n : Nat) (x128_9 : Int) (x128_10 : Int) (x128_11 : Int) (x128_12i : Nat) (x128_12o : Nat) (x128_12n : Nat) (x128_13i : Nat) (x128_13o : Nat) (x128_13n : Nat) (G : GH) : Option Res := M.ag C [2, 8, 11, 17, 19, 127, 128] hodmanref17_place.c46 (hodmanref17_place.e48 M C) (hodmanref17_place.k54 M C) [.und, .und, .v (.c (.int .i64 charge2)), .und, .und, .und, .und, .und, .ref 127 0, .und, .und, .v (.c (.int .i64 at11)), .und, .und, .und, .und, .und, .ref 128 0, .und, .v (.c (.int .i64 i19)), .und, .und, .und, .und, .und, .und, .und, .und, .und, .und, .und, .und, .und, .und, .und, .und, .und, .und, .und, .und, .und, .und, .und, .und, .und, .und, .und, .und, .und, .und, .und, .und, .und, .und, .und, .und, .und, .und, .und, .und, .und, .und, .und, .und, .und, .und, .und, .und, .und, .und, .und, .und, .und, .und, .und, .und, .und, .und, .und, .und, .und, .und, .und, .und, .und, .und, .und, .und, .und, .und, .und, .und, .und, .und, .und, .und, .und, .und, .und, .und, .und, .und, .und, .und, .und, .und, .und, .und, .und, .und, .und, .und, .und, .und, .und, .und, .und, .und, .und, .und, .und, .und, .und, .und, .und, .und, .und, .box [.int .i64 x127_0, .int .i64 x127_1, .int .i64 x127_2, .int .i64 x127_3, .int .i64 x127_4, .int .i64 x127_5, .int .i64 x127_6, .int .i64 x127_7, .sl 3 x127_8i x127_8o x127_8n, .int .i64 x127_9, .int .i64 x127_10, .int .i64 x127_11, .sl 1 x127_12i x127_12o x127_12n, .sl 1 x127_13i x127_13o x127_13n], .box [.int .i64 x128_0, .int .i64 x128_1, .int .i64 x128_2, .int .i64 x128_3, .int .i64 x128_4, .int .i64 x128_5, .int .i64 x128_6, .int .i64 x128_7, .sl 3 x128_8i x128_8o x128_8n, .int .i64 x128_9, .int .i64 x128_10, .int .i64 x128_11, .sl 1 x128_12i x128_12o x128_12n, .sl 1 x128_13i x128_13o x128_13n]] G
theorem hodmanref17_place.L31_eq (M : Mach) (C : Call) (l1i : Nat) (l1o : Nat) (l1n : Nat) (charge2 : Int) (asked3 : Int) (at11 : Int) (fresh16i : Nat) (fresh16o : Nat) (fresh16n : Nat) (i18 : Int) (m126_0 : Int) (m126_1 : Int) (m126_2 : Int) (m126_3 : Int) (m126_4 : Int) (m126_5 : Int) (m126_6 : Int) (m126_7 : Int) (m126_8i : Nat) (m126_8o : Nat) (m126_8n : Nat) (m126_9 : Int) (m126_10 : Int) (m126_11 : Int) (m126_12i : Nat) (m126_12o : Nat) (m126_12n : Nat) (m126_13i : Nat) (m126_13o : Nat) (m126_13n : Nat) (x127_0 : Int) (x127_1 : Int) (x127_2 : Int) (x127_3 : Int) (x127_4 : Int) (x127_5 : Int) (x127_6 : Int) (x127_7 : Int) (x127_8i : Nat) (x127_8o : Nat) (x127_8n : Nat) (x127_9 : Int) (x127_10 : Int) (x127_11 : Int) (x127_12i : Nat) (x127_12o : Nat) (x127_12n : Nat) (x127_13i : Nat) (x127_13o : Nat) (x127_13n : Nat) (x128_0 : Int) (x128_1 : Int) (x128_2 : Int) (x128_3 : Int) (x128_4 : Int) (x128_5 : Int) (x128_6 : Int) (x128_7 : Int) (x128_8i : Nat) (x128_8o : Nat) (x128_8n : Nat) (x128_9 : Int) (x128_10 : Int) (x128_11 : Int) (x128_12i : Nat) (x128_12o : Nat) (x128_12n : Nat) (x128_13i : Nat) (x128_13o : Nat) (x128_13n : Nat) (G : GH) : hodmanref17_place.L31 M C l1i l1o l1n charge2 asked3 at11 fresh16i fresh16o fresh16n i18 m126_0 m126_1 m126_2 m126_3 m126_4 m126_5 m126_6 m126_7 m126_8i m126_8o m126_8n m126_9 m126_10 m126_11 m126_12i m126_12o m126_12n m126_13i m126_13o m126_13n x127_0 x127_1 x127_2 x127_3 x127_4 x127_5 x127_6 x127_7 x127_8i x127_8o x127_8n x127_9 x127_10 x127_11 x127_12i x127_12o x127_12n x127_13i x127_13o x127_13n x128_0 x128_1 x128_2 x128_3 x128_4 x128_5 x128_6 x128_7 x128_8i x128_8o x128_8n x128_9 x128_10 x128_11 x128_12i x128_12o x128_12n x128_13i x128_13o x128_13n G = (bif decide (i18 < ((fresh16n : Nat) : Int)) then guardK (decide (0 ≤ i18 ∧ i18 < ((fresh16n : Nat) : Int))) (((G.ld fresh16i (fresh16o + Int.toNat i18 * 1)).bind (Cell.asI .i64)).bind fun qx_13 => (C hodmanref8_Fill.id [.c (.sl 1 x128_13i x128_13o x128_13n), .c (.int .i64 m126_7), .c (.int .i64 qx_13), .c (.int .i64 m126_4)] G).bind fun qr_14 => (((qr_14.1[0]?).bind V1.c?).bind (Cell.asS 1)).bind fun qs_15 => hodmanref17_place.L31 M C l1i l1o l1n charge2 asked3 at11 fresh16i fresh16o fresh16n (IntKind.i64.wrap (i18 + 1)) m126_0 m126_1 m126_2 m126_3 m126_4 m126_5 m126_6 m126_7 m126_8i m126_8o m126_8n m126_9 m126_10 m126_11 m126_12i m126_12o m126_12n m126_13i m126_13o m126_13n x127_0 x127_1 x127_2 x127_3 x127_4 x127_5 x127_6 x127_7 x127_8i x127_8o x127_8n x127_9 x127_10 x127_11 x127_12i x127_12o x127_12n x127_13i x127_13o x127_13n x128_0 x128_1 x128_2 x128_3 x128_4 x128_5 x128_6 x128_7 x128_8i x128_8o x128_8n x128_9 x128_10 x128_11 x128_12i x128_12o x128_12n qs_15.1 qs_15.2.1 qs_15.2.2 qr_14.2) else (C hodmanref17_put.id [.c (.sl 3 l1i l1o l1n), .agg [.int .i64 at11, .int .i64 charge2, .int .i64 asked3]] G).bind fun qr_16 => (((qr_16.1[0]?).bind V1.c?).bind (Cell.asS 3)).bind fun qs_17 => hodmanref17_place.L47 M C charge2 at11 0 x127_0 x127_1 x127_2 x127_3 x127_4 x127_5 x127_6 x127_7 x127_8i x127_8o x127_8n x127_9 x127_10 x127_11 x127_12i x127_12o x127_12n x127_13i x127_13o x127_13n x128_0 x128_1 x128_2 x128_3 x128_4 x128_5 x128_6 x128_7 qs_17.1 qs_17.2.1 qs_17.2.2 0 x128_10 x128_11 x128_12i x128_12o x128_12n x128_13i x128_13o x128_13n qr_16.2) := (M.hs _ _ _ _ _ _ _).trans (by kernel_rfl)
theorem hodmanref17_place.L47_eq (M : Mach) (C : Call) (charge2 : Int) (at11 : Int) (i19 : Int) (x127_0 : Int) (x127_1 : Int) (x127_2 : Int) (x127_3 : Int) (x127_4 : Int) (x127_5 : Int) (x127_6 : Int) (x127_7 : Int) (x127_8i : Nat) (x127_8o : Nat) (x127_8n : Nat) (x127_9 : Int) (x127_10 : Int) (x127_11 : Int) (x127_12i : Nat) (x127_12o : Nat) (x127_12n : Nat) (x127_13i : Nat) (x127_13o : Nat) (x127_13n : Nat) (x128_0 : Int) (x128_1 : Int) (x128_2 : Int) (x128_3 : Int) (x128_4 : Int) (x128_5 : Int) (x128_6 : Int) (x128_7 : Int) (x128_8i : Nat) (x128_8o : Nat) (x128_8n : Nat) (x128_9 : Int) (x128_10 : Int) (x128_11 : Int) (x128_12i : Nat) (x128_12o : Nat) (x128_12n : Nat) (x128_13i : Nat) (x128_13o : Nat) (x128_13n : Nat) (G : GH) : hodmanref17_place.L47 M C charge2 at11 i19 x127_0 x127_1 x127_2 x127_3 x127_4 x127_5 x127_6 x127_7 x127_8i x127_8o x127_8n x127_9 x127_10 x127_11 x127_12i x127_12o x127_12n x127_13i x127_13o x127_13n x128_0 x128_1 x128_2 x128_3 x128_4 x128_5 x128_6 x128_7 x128_8i x128_8o x128_8n x128_9 x128_10 x128_11 x128_12i x128_12o x128_12n x128_13i x128_13o x128_13n G = (bif decide (i19 < ((x128_8n : Nat) : Int)) then guardK (decide (0 ≤ i19 ∧ i19 < ((x128_8n : Nat) : Int))) (((G.ld x128_8i ((x128_8o + Int.toNat i19 * 3) + 1)).bind (Cell.asI .i64)).bind fun qx_18 => hodmanref17_place.L47 M C charge2 at11 (IntKind.i64.wrap (i19 + 1)) x127_0 x127_1 x127_2 x127_3 x127_4 x127_5 x127_6 x127_7 x127_8i x127_8o x127_8n x127_9 x127_10 x127_11 x127_12i x127_12o x127_12n x127_13i x127_13o x127_13n x128_0 x128_1 x128_2 x128_3 x128_4 x128_5 x128_6 x128_7 x128_8i x128_8o x128_8n (IntKind.i64.wrap (x128_9 + qx_18)) x128_10 x128_11 x128_12i x128_12o x128_12n x128_13i x128_13o x128_13n G) else some ([.agg [.int .i64 x128_0, .int .i64 x128_1, .int .i64 x128_2, .int .i64 x128_3, .int .i64 x128_4, .int .i64 x128_5, .int .i64 x128_6, .int .i64 x128_7, .sl 3 x128_8i x128_8o x128_8n, .int .i64 x128_9, .int .i64 (mx2 x128_10 x128_9), .int .i64 (mx2 x128_11 (IntKind.i64.wrap (at11 + charge2))), .sl 1 x128_12i x128_12o x128_12n, .sl 1 x128_13i x128_13o x128_13n], .c (.int .i64 at11), .c (.int .i64 0)], G)) := (M.hs _ _ _ _ _ _ _).trans (by kernel_rfl)
def hodmanref17_place.f (M : Mach) (C : Call) (m0_0 : Int) (m0_1 : Int) (m0_2 : Int) (m0_3 : Int) (m0_4 : Int) (m0_5 : Int) (m0_6 : Int) (m0_7 : Int) (m0_8i : Nat) (m0_8o : Nat) (m0_8n : Nat) (m0_9 : Int) (m0_10 : Int) (m0_11 : Int) (m0_12i : Nat) (m0_12o : Nat) (m0_12n : Nat) (m0_13i : Nat) (m0_13o : Nat) (m0_13n : Nat) (l1i : Nat) (l1o : Nat) (l1n : Nat) (charge2 : Int) (asked3 : Int) (G : GH) : Option Res := (C hodmanref17_Lowest.id [.agg [.int .i64 m0_0, .int .i64 m0_1, .int .i64 m0_2, .int .i64 m0_3, .int .i64 m0_4, .int .i64 m0_5, .int .i64 m0_6, .int .i64 m0_7], .c (.sl 3 l1i l1o l1n), .c (.int .i64 charge2)] G).bind fun qr_1 => (((qr_1.1[0]?).bind V1.c?).bind (Cell.asI .i64)).bind fun qx_2 => (((qr_1.1[1]?).bind V1.c?).bind Cell.asB).bind fun qb_3 => bif (!qb_3) then some ([.agg [.int .i64 m0_0, .int .i64 m0_1, .int .i64 m0_2, .int .i64 m0_3, .int .i64 m0_4, .int .i64 m0_5, .int .i64 m0_6, .int .i64 m0_7, .sl 3 m0_8i m0_8o m0_8n, .int .i64 m0_9, .int .i64 m0_10, .int .i64 m0_11, .sl 1 m0_12i m0_12o m0_12n, .sl 1 m0_13i m0_13o m0_13n], .c (.int .i64 0), .c (.int .i64 7)], qr_1.2) else (C hodmanref8_Pages.id [.c (.int .i64 m0_4), .c (.int .i64 qx_2), .c (.int .i64 charge2)] qr_1.2).bind fun qr_4 => (((qr_4.1[0]?).bind V1.c?).bind (Cell.asI .i64)).bind fun qx_5 => (((qr_4.1[1]?).bind V1.c?).bind (Cell.asI .i64)).bind fun qx_6 => (C hodmanref8_Met.id [.c (.int .i64 m0_4), .c (.int .i64 m0_6), .c (.sl 3 l1i l1o l1n)] qr_4.2).bind fun qr_7 => (((qr_7.1[0]?).bind V1.c?).bind (Cell.asS 1)).bind fun qs_8 => (C hodmanref8_Commit.id [.c (.sl 1 m0_12i m0_12o m0_12n), .c (.sl 1 qs_8.1 qs_8.2.1 qs_8.2.2), .c (.int .i64 qx_5), .c (.int .i64 qx_6), .c (.int .i64 m0_5)] qr_7.2).bind fun qr_9 => (((qr_9.1[0]?).bind V1.c?).bind (Cell.asS 1)).bind fun qs_10 => (((qr_9.1[1]?).bind V1.c?).bind (Cell.asS 1)).bind fun qs_11 => (((qr_9.1[2]?).bind V1.c?).bind Cell.asB).bind fun qb_12 => bif (!qb_12) then some ([.agg [.int .i64 m0_0, .int .i64 m0_1, .int .i64 m0_2, .int .i64 m0_3, .int .i64 m0_4, .int .i64 m0_5, .int .i64 m0_6, .int .i64 m0_7, .sl 3 m0_8i m0_8o m0_8n, .int .i64 m0_9, .int .i64 m0_10, .int .i64 m0_11, .sl 1 m0_12i m0_12o m0_12n, .sl 1 m0_13i m0_13o m0_13n], .c (.int .i64 0), .c (.int .i64 6)], qr_9.2) else hodmanref17_place.L31 M C l1i l1o l1n charge2 asked3 qx_2 qs_11.1 qs_11.2.1 qs_11.2.2 0 m0_0 m0_1 m0_2 m0_3 m0_4 m0_5 m0_6 m0_7 m0_8i m0_8o m0_8n m0_9 m0_10 m0_11 m0_12i m0_12o m0_12n m0_13i m0_13o m0_13n 0 0 0 0 0 0 0 0 0 0 0 0 0 0 0 0 0 0 0 0 m0_0 m0_1 m0_2 m0_3 m0_4 m0_5 m0_6 m0_7 m0_8i m0_8o m0_8n m0_9 m0_10 m0_11 qs_10.1 qs_10.2.1 qs_10.2.2 m0_13i m0_13o m0_13n qr_9.2
theorem hodmanref17_place.eq (M : Mach) (C : Call) (m0_0 : Int) (m0_1 : Int) (m0_2 : Int) (m0_3 : Int) (m0_4 : Int) (m0_5 : Int) (m0_6 : Int) (m0_7 : Int) (m0_8i : Nat) (m0_8o : Nat) (m0_8n : Nat) (m0_9 : Int) (m0_10 : Int) (m0_11 : Int) (m0_12i : Nat) (m0_12o : Nat) (m0_12n : Nat) (m0_13i : Nat) (m0_13o : Nat) (m0_13n : Nat) (l1i : Nat) (l1o : Nat) (l1n : Nat) (charge2 : Int) (asked3 : Int) (G : GH) : runF M C hodmanref17_place.d [.agg [.int .i64 m0_0, .int .i64 m0_1, .int .i64 m0_2, .int .i64 m0_3, .int .i64 m0_4, .int .i64 m0_5, .int .i64 m0_6, .int .i64 m0_7, .sl 3 m0_8i m0_8o m0_8n, .int .i64 m0_9, .int .i64 m0_10, .int .i64 m0_11, .sl 1 m0_12i m0_12o m0_12n, .sl 1 m0_13i m0_13o m0_13n], .c (.sl 3 l1i l1o l1n), .c (.int .i64 charge2), .c (.int .i64 asked3)] G = hodmanref17_place.f M C m0_0 m0_1 m0_2 m0_3 m0_4 m0_5 m0_6 m0_7 m0_8i m0_8o m0_8n m0_9 m0_10 m0_11 m0_12i m0_12o m0_12n m0_13i m0_13o m0_13n l1i l1o l1n charge2 asked3 G := by kernel_rfl

/- 27 hodman/hodmanref1.Of -/
def hodmanref1_Of.c13 : DCode := (.cond (.t 31) (.seq (.region [⟨0, some 32, .build [.int .i64 0, .int .i64 0, .int .i64 0, .int .i64 0, .int .i64 0, .int .i64 0, .int .i64 0, .int .i64 0] [], none⟩,
    ⟨1, none, .stL 2 123 (.t 32) 8, none⟩,
    ⟨2, some 3, .move (.k (.c (.int .i64 1))), none⟩]) .ret) .skip)
def hodmanref1_Of.c16 : DCode := (.region [⟨0, some 18, .move (.t 5), none⟩,
    ⟨1, some 19, .bin .add .i64 (.t 18) (.k (.c (.int .i64 1))), none⟩,
    ⟨2, some 5, .move (.t 19), none⟩])
def hodmanref1_Of.c18 : DCode := (.seq (.seq (.region [⟨0, some 16, .move (.t 5), none⟩,
    ⟨1, some 17, .cmp .lss .i64 (.t 16) (.k (.c (.int .i64 4))), none⟩]) (.cond (.t 17) .skip (.exit 0))) (.seq (.block 1 (.seq (.region [⟨0, some 20, .move (.t 4), none⟩,
    ⟨1, some 21, .move (.t 5), none⟩,
    ⟨2, some 22, .iaddr (.t 20) (.t 21) 1, none⟩,
    ⟨3, some 23, .ldG 22 (.c (.int .i64)), none⟩,
    ⟨4, some 24, .cmp .lss .i64 (.t 23) (.k (.c (.int .i64 1))), none⟩,
    ⟨5, some 25, .move (.t 24), none⟩,
    ⟨6, some 26, .move (.t 4), some (25, false)⟩,
    ⟨7, some 27, .move (.t 5), some (25, false)⟩,
    ⟨8, some 28, .iaddr (.t 26) (.t 27) 1, some (25, false)⟩,
    ⟨9, some 29, .ldG 28 (.c (.int .i64)), some (25, false)⟩,
    ⟨10, some 30, .cmp .gtr .i64 (.t 29) (.k (.c (.int .i64 65536))), some (25, false)⟩,
    ⟨11, some 31, .pick (.t 25) (.k (.c (.bool true))) (.t 30), none⟩]) (.cut [1, 2, 4, 5, 31, 122, 123] hodmanref1_Of.c13))) hodmanref1_Of.c16))
def hodmanref1_Of.c19 : DCode := (.loop [1, 2, 4, 5, 122, 123] hodmanref1_Of.c18)
def hodmanref1_Of.c27 : DCode := (.cond (.t 50) (.seq (.region [⟨0, some 51, .build [.int .i64 0, .int .i64 0, .int .i64 0, .int .i64 0, .int .i64 0, .int .i64 0, .int .i64 0, .int .i64 0] [], none⟩,
    ⟨1, none, .stL 2 123 (.t 51) 8, none⟩,
    ⟨2, some 3, .move (.k (.c (.int .i64 1))), none⟩]) .ret) .skip)
def hodmanref1_Of.c53 : DCode := (.seq (.region [⟨0, some 52, .faddr 1 4, none⟩,
    ⟨1, some 53, .ldL 52 122 (.c (.int .i64)), none⟩,
    ⟨2, some 54, .faddr 1 5, none⟩,
    ⟨3, some 55, .ldL 54 122 (.c (.int .i64)), none⟩,
    ⟨4, some 56, .build [.int .i64 0, .int .i64 0, .int .i64 0, .int .i64 0, .int .i64 0, .int .i64 0, .int .i64 0, .int .i64 0] [(5, 1, .t 53), (7, 1, .t 55)], none⟩,
    ⟨5, some 6, .boxz 124 [63, 67, 73, 77, 83, 87, 89, 96, 98, 100, 106, 107, 109, 111, 116, 117] [.int .i64 0, .int .i64 0, .int .i64 0, .int .i64 0, .int .i64 0, .int .i64 0, .int .i64 0, .int .i64 0], none⟩,
    ⟨6, none, .stL 6 124 (.t 56) 8, none⟩]) (.seq (.region [⟨0, some 58, .faddr 1 0, none⟩,
    ⟨1, some 59, .ldL 58 122 (.c (.int .i64)), none⟩,
    ⟨2, some 60, .call 42 [.t 59] [.c (.int .i64), .c (.bool)], none⟩,
    ⟨3, some 57, .move (.t 60), none⟩,
    ⟨4, some 61, .ext 57 0, none⟩,
    ⟨5, some 62, .ext 57 1, none⟩,
    ⟨6, some 63, .faddr 6 0, none⟩,
    ⟨7, none, .stL 63 124 (.t 61) 1, none⟩]) (.seq (.region [⟨0, some 65, .faddr 1 1, none⟩,
    ⟨1, some 66, .ldL 65 122 (.c (.int .i64)), none⟩,
    ⟨2, some 67, .faddr 6 0, none⟩,
    ⟨3, some 68, .ldL 67 124 (.c (.int .i64)), none⟩,
    ⟨4, some 69, .mx (.t 66) [.t 68], none⟩,
    ⟨5, some 70, .call 42 [.t 69] [.c (.int .i64), .c (.bool)], none⟩,
    ⟨6, some 64, .move (.t 70), none⟩,
    ⟨7, some 71, .ext 64 0, none⟩,
    ⟨8, some 72, .ext 64 1, none⟩,
    ⟨9, some 73, .faddr 6 1, none⟩,
    ⟨10, none, .stL 73 124 (.t 71) 1, none⟩]) (.seq (.region [⟨0, some 75, .faddr 1 3, none⟩,
    ⟨1, some 76, .ldL 75 122 (.c (.int .i64)), none⟩,
    ⟨2, some 77, .faddr 6 0, none⟩,
    ⟨3, some 78, .ldL 77 124 (.c (.int .i64)), none⟩,
    ⟨4, some 79, .mx (.t 76) [.t 78], none⟩,
    ⟨5, some 80, .call 42 [.t 79] [.c (.int .i64), .c (.bool)], none⟩,
    ⟨6, some 74, .move (.t 80), none⟩,
    ⟨7, some 81, .ext 74 0, none⟩,
    ⟨8, some 82, .ext 74 1, none⟩,
    ⟨9, some 83, .faddr 6 4, none⟩,
    ⟨10, none, .stL 83 124 (.t 81) 1, none⟩]) (.seq (.region [⟨0, some 85, .faddr 1 2, none⟩,
    ⟨1, some 86, .ldL 85 122 (.c (.int .i64)), none⟩,
    ⟨2, some 87, .faddr 6 1, none⟩,
    ⟨3, some 88, .ldL 87 124 (.c (.int .i64)), none⟩,
    ⟨4, some 89, .faddr 6 4, none⟩,
    ⟨5, some 90, .ldL 89 124 (.c (.int .i64)), none⟩,
    ⟨6, some 91, .mx (.t 88) [.t 90], none⟩,
    ⟨7, some 92, .bin .mul .i64 (.k (.c (.int .i64 2))) (.t 91), none⟩,
    ⟨8, some 93, .call 43 [.t 86, .t 92] [.c (.int .i64), .c (.bool)], none⟩,
    ⟨9, some 84, .move (.t 93), none⟩,
    ⟨10, some 94, .ext 84 0, none⟩,
    ⟨11, some 95, .ext 84 1, none⟩,
    ⟨12, some 96, .faddr 6 2, none⟩,
    ⟨13, none, .stL 96 124 (.t 94) 1, none⟩]) (.seq (.region [⟨0, some 98, .faddr 6 1, none⟩,
    ⟨1, some 99, .ldL 98 124 (.c (.int .i64)), none⟩,
    ⟨2, some 100, .faddr 6 0, none⟩,
    ⟨3, some 101, .ldL 100 124 (.c (.int .i64)), none⟩,
    ⟨4, some 102, .bin .quo .i64 (.t 99) (.t 101), none⟩,
    ⟨5, some 103, .call 44 [.t 102] [.c (.int .i64), .c (.bool)], none⟩,
    ⟨6, some 97, .move (.t 103), none⟩,
    ⟨7, some 104, .ext 97 0, none⟩,
    ⟨8, some 105, .ext 97 1, none⟩,
    ⟨9, some 106, .faddr 6 3, none⟩,
    ⟨10, none, .stL 106 124 (.t 104) 1, none⟩]) (.seq (.region [⟨0, some 107, .faddr 6 2, none⟩,
    ⟨1, some 108, .ldL 107 124 (.c (.int .i64)), none⟩,
    ⟨2, some 109, .faddr 6 3, none⟩,
    ⟨3, some 110, .ldL 109 124 (.c (.int .i64)), none⟩,
    ⟨4, some 111, .faddr 6 2, none⟩,
    ⟨5, some 112, .ldL 111 124 (.c (.int .i64)), none⟩,
    ⟨6, some 113, .bin .quo .i64 (.t 112) (.k (.c (.int .i64 2))), none⟩,
    ⟨7, some 114, .bin .mul .i64 (.t 110) (.t 113), none⟩,
    ⟨8, some 115, .bin .add .i64 (.t 108) (.t 114), none⟩,
    ⟨9, some 116, .faddr 6 6, none⟩,
    ⟨10, none, .stL 116 124 (.t 115) 1, none⟩]) (.seq (.seq (.region [⟨0, some 117, .faddr 6 6, none⟩,
    ⟨1, some 118, .ldL 117 124 (.c (.int .i64)), none⟩,
    ⟨2, some 119, .cmp .gtr .i64 (.t 118) (.k (.c (.int .i64 65536))), none⟩]) (.cond (.t 119) (.seq (.region [⟨0, some 120, .build [.int .i64 0, .int .i64 0, .int .i64 0, .int .i64 0, .int .i64 0, .int .i64 0, .int .i64 0, .int .i64 0] [], none⟩,
    ⟨1, none, .stL 2 123 (.t 120) 8, none⟩,
    ⟨2, some 3, .move (.k (.c (.int .i64 1))), none⟩]) .ret) .skip)) (.seq (.region [⟨0, some 121, .ldL 6 124 (.agg [.int .i64, .int .i64, .int .i64, .int .i64, .int .i64, .int .i64, .int .i64, .int .i64]), none⟩,
    ⟨1, none, .stL 2 123 (.t 121) 8, none⟩,
    ⟨2, some 3, .move (.k (.c (.int .i64 0))), none⟩]) .ret)))))))))
def hodmanref1_Of.c54 : DCode := (.seq (.seq (.region [⟨0, some 33, .faddr 1 4, none⟩,
    ⟨1, some 34, .ldL 33 122 (.c (.int .i64)), none⟩,
    ⟨2, some 35, .cmp .lss .i64 (.t 34) (.k (.c (.int .i64 0))), none⟩,
    ⟨3, some 36, .move (.t 35), none⟩,
    ⟨4, some 37, .faddr 1 4, some (36, false)⟩,
    ⟨5, some 38, .ldL 37 122 (.c (.int .i64)), some (36, false)⟩,
    ⟨6, some 39, .cmp .gtr .i64 (.t 38) (.k (.c (.int .i64 65536))), some (36, false)⟩,
    ⟨7, some 40, .pick (.t 36) (.k (.c (.bool true))) (.t 39), none⟩,
    ⟨8, some 41, .move (.t 40), none⟩,
    ⟨9, some 42, .faddr 1 5, some (41, false)⟩,
    ⟨10, some 43, .ldL 42 122 (.c (.int .i64)), some (41, false)⟩,
    ⟨11, some 44, .cmp .lss .i64 (.t 43) (.k (.c (.int .i64 0))), some (41, false)⟩,
    ⟨12, some 45, .pick (.t 41) (.k (.c (.bool true))) (.t 44), none⟩,
    ⟨13, some 46, .move (.t 45), none⟩,
    ⟨14, some 47, .faddr 1 5, some (46, false)⟩,
    ⟨15, some 48, .ldL 47 122 (.c (.int .i64)), some (46, false)⟩,
    ⟨16, some 49, .cmp .gtr .i64 (.t 48) (.k (.c (.int .i64 255))), some (46, false)⟩,
    ⟨17, some 50, .pick (.t 46) (.k (.c (.bool true))) (.t 49), none⟩]) (.cut [1, 2, 50, 122, 123] hodmanref1_Of.c27)) hodmanref1_Of.c53)
def hodmanref1_Of.d : DFn := { ntmps := 125, res := [.box 2 (some 8), .t 3], body := (.seq (.region [⟨0, some 1, .boxv 122 [7, 9, 11, 13, 33, 37, 42, 47, 52, 54, 58, 65, 75, 85] (.t 0) 6, none⟩,
    ⟨1, some 2, .boxz 123 [] [.int .i64 0, .int .i64 0, .int .i64 0, .int .i64 0, .int .i64 0, .int .i64 0, .int .i64 0, .int .i64 0], none⟩,
    ⟨2, some 3, .move (.k (.c (.int .i64 0))), none⟩]) (.seq (.region [⟨0, some 7, .faddr 1 0, none⟩,
    ⟨1, some 8, .ldL 7 122 (.c (.int .i64)), none⟩,
    ⟨2, some 9, .faddr 1 1, none⟩,
    ⟨3, some 10, .ldL 9 122 (.c (.int .i64)), none⟩,
    ⟨4, some 11, .faddr 1 2, none⟩,
    ⟨5, some 12, .ldL 11 122 (.c (.int .i64)), none⟩,
    ⟨6, some 13, .faddr 1 3, none⟩,
    ⟨7, some 14, .ldL 13 122 (.c (.int .i64)), none⟩,
    ⟨8, some 15, .bslice 4 1 [.int .i64 0, .int .i64 0, .int .i64 0, .int .i64 0] [(0, 1, .t 8), (1, 1, .t 10), (2, 1, .t 12), (3, 1, .t 14)], none⟩,
    ⟨9, some 4, .move (.t 15), none⟩]) (.seq (.seq (.region [⟨0, some 5, .move (.k (.c (.int .i64 0))), none⟩]) (.block 0 hodmanref1_Of.c19)) hodmanref1_Of.c54))) }
def hodmanref1_Of.k54 (M : Mach) (C : Call) : Kont := execC M.j C (M.ag C) hodmanref1_Of.c54 ({ exits := [], ret := retK hodmanref1_Of.d } : Env) (retK hodmanref1_Of.d)
def hodmanref1_Of.e20 (M : Mach) (C : Call) : Env := { exits := (0, (hodmanref1_Of.k54 M C)) :: (({ exits := [], ret := retK hodmanref1_Of.d } : Env)).exits, ret := (({ exits := [], ret := retK hodmanref1_Of.d } : Env)).ret }
def hodmanref1_Of.L19 (M : Mach) (C : Call) (l4i : Nat) (l4o : Nat) (l4n : Nat) (i5 : Int) (r122_0 : Int) (r122_1 : Int) (r122_2 : Int) (r122_3 : Int) (r122_4 : Int) (r122_5 : Int) (x123_0 : Int) (x123_1 : Int) (x123_2 : Int) (x123_3 : Int) (x123_4 : Int) (x123_5 : Int) (x123_6 : Int) (x123_7 : Int) (G : GH) : Option Res := M.ag C [1, 2, 4, 5, 122, 123] hodmanref1_Of.c18 (hodmanref1_Of.e20 M C) (hodmanref1_Of.k54 M C) [.und, .ref 122 0, .ref 123 0, .und, .v (.c (.sl 1 l4i l4o l4n)), .v (.c (.int .i64 i5)), .und, .und, .und, .und, .und, .und, .und, .und, .und, .und, .und, .und, .und, .und, .und, .und, .und, .und, .und, .und, .und, .und, .und, .und, .und, .und, .und, .und, .und, .und, .und, .und, .und, .und, .und, .und, .und, .und, .und, .und, .und, .und, .und, .und, .und, .und, .und, .und, .und, .und, .und, .und, .und, .und, .und, .und, .und, .und, .und, .und, .und, .und, .und, .und, .und, .und, .und, .und, .und, .und, .und, .und, .und, .und, .und, .und, .und, .und, .und, .und, .und, .und, .und, .und, .und, .und, .und, .und, .und, .und, .und, .und, .und, .und, .und, .und, .und, .und, .und, .und, .und, .und, .und, .und, .und, .und, .und, .und, .und, .und, .und, .und, .und, .und, .und, .und, .box [.int .i64 r122_0, .int .i64 r122_1, .int .i64 r122_2, .int .i64 r122_3, .int .i64 r122_4, .int .i64 r122_5], .box [.int .i64 x123_0, .int .i64 x123_1, .int .i64 x123_2, .int .i64 x123_3, .int .i64 x123_4, .int .i64 x123_5, .int .i64 x123_6, .int .i64 x123_7], .und] G
def hodmanref1_Of.k19 (M : Mach) (C : Call) : Kont := fun tm G => M.ag C [1, 2, 4, 5, 122, 123] hodmanref1_Of.c18 (hodmanref1_Of.e20 M C) (hodmanref1_Of.k54 M C) (restr [1, 2, 4, 5, 122, 123] 0 tm) G
def hodmanref1_Of.k16 (M : Mach) (C : Call) : Kont := execC M.j C (M.ag C) hodmanref1_Of.c16 (hodmanref1_Of.e20 M C) (hodmanref1_Of.k19 M C)
def hodmanref1_Of.e15 (M : Mach) (C : Call) : Env := { exits := (1, (hodmanref1_Of.k16 M C)) :: ((hodmanref1_Of.e20 M C)).exits, ret := ((hodmanref1_Of.e20 M C)).ret }
def hodmanref1_Of.J13 (M : Mach) (C : Call) (l4i : Nat) (l4o : Nat) (l4n : Nat) (i5 : Int) (t31 : Bool) (r122_0 : Int) (r122_1 : Int) (r122_2 : Int) (r122_3 : Int) (r122_4 : Int) (r122_5 : Int) (x123_0 : Int) (x123_1 : Int) (x123_2 : Int) (x123_3 : Int) (x123_4 : Int) (x123_5 : Int) (x123_6 : Int) (x123_7 : Int) (G : GH) : Option Res := M.j (execC M.j C (M.ag C) hodmanref1_Of.c13 (hodmanref1_Of.e15 M C) (hodmanref1_Of.k16 M C)) [.und, .ref 122 0, .ref 123 0, .und, .v (.c (.sl 1 l4i l4o l4n)), .v (.c (.int .i64 i5)), .und, .und, .und, .und, .und, .und, .und, .und, .und, .und, .und, .und, .und, .und, .und, .und, .und, .und, .und, .und, .und, .und, .und, .und, .und, .v (.c (.bool t31)), .und, .und, .und, .und, .und, .und, .und, .und, .und, .und, .und, .und, .und, .und, .und, .und, .und, .und, .und, .und, .und, .und, .und, .und, .und, .und, .und, .und, .und, .und, .und, .und, .und, .und, .und, .und, .und, .und, .und, .und, .und, .und, .und, .und, .und, .und, .und, .und, .und, .und, .und, .und, .und, .und, .und, .und, .und, .und, .und, .und, .und, .und, .und, .und, .und, .und, .und, .und, .und, .und, .und, .und, .und, .und, .und, .und, .und, .und, .und, .und, .und, .und, .und, .und, .und, .und, .und, .und, .und, .und, .box [.int .i64 r122_0, .int .i64 r122_1, .int .i64 r122_2, .int .i64 r122_3, .int .i64 r122_4, .int .i64 r122_5], .box [.int .i64 x123_0, .int .i64 x123_1, .int .i64 x123_2, .int .i64 x123_3, .int .i64 x123_4, .int .i64 x123_5, .int .i64 x123_6, .int .i64 x123_7], .und] G
def hodmanref1_Of.k53 (M : Mach) (C : Call) : Kont := execC M.j C (M.ag C) hodmanref1_Of.c53 ({ exits := [], ret := retK hodmanref1_Of.d } : Env) (retK hodmanref1_Of.d)
def hodmanref1_Of.J27 (M : Mach) (C : Call) (t50 : Bool) (r122_0 : Int) (r122_1 : Int) (r122_2 : Int) (r122_3 : Int) (r122_4 : Int) (r122_5 : Int) (x123_0 : Int) (x123_1 : Int) (x123_2 : Int) (x123_3 : Int) (x123_4 : Int) (x123_5 : Int) (x123_6 : Int) (x123_7 : Int) (G : GH) : Option Res := M.j (execC M.j C (M.ag C) hodmanref1_Of.c27 ({ exits := [], ret := retK hodmanref1_Of.d } : Env) (hodmanref1_Of.k53 M C)) [.und, .ref 122 0, .ref 123 0, .und, .und, .und, .und, .und, .und, .und, .und, .und, .und, .und, .und, .und, .und, .und, .und, .und, .und, .und, .und, .und, .und, .und, .und, .und, .und, .und, .und, .und, .und, .und, .und, .und, .und, .und, .und, .und, .und, .und, .und, .und, .und, .und, .und, .und, .und, .und, .v (.c (.bool t50)), .und, .und, .und, .und, .und, .und, .und, .und, .und, .und, .und, .und, .und, .und, .und, .und, .und, .und, .und, .und, .und, .und, .und, .und, .und, .und, .und, .und, .und, .und, .und, .und, .und, .und, .und, .und, .und, .und, .und, .und, .und, .und, .und, .und, .und, .und, .und, .und, .und, .und, .und, .und, .und, .und, .und, .und, .und, .und, .und, .und, .und, .und, .und, .und, .und, .und, .und, .und, .und, .und, .und, .box [.int .i64 r122_0, .int .i64 r122_1, .int .i64 r122_2, .int .i64 r122_3, .int .i64 r122_4, .int .i64 r122_5], .box [.int .i64 x123_0, .int .i64 x123_1, .int .i64 x123_2, .int .i64 x123_3, .int .i64 x123_4, .int .i64 x123_5, .int .i64 x123_6, .int .i64 x123_7], .und] G
theorem hodmanref1_Of.L19_eq (M : Mach) (C : Call) (l4i : Nat) (l4o : Nat) (l4n : Nat) (i5 : Int) (r122_0 : Int) (r122_1 : Int) (r122_2 : Int) (r122_3 : Int) (r122_4 : Int) (r122_5 : Int) (x123_0 : Int) (x123_1 : Int) (x123_2 : Int) (x123_3 : Int) (x123_4 : Int) (x123_5 : Int) (x123_6 : Int) (x123_7 : Int) (G : GH) : hodmanref1_Of.L19 M C l4i l4o l4n i5 r122_0 r122_1 r122_2 r122_3 r122_4 r122_5 x123_0 x123_1 x123_2 x123_3 x123_4 x123_5 x123_6 x123_7 G = (bif decide (i5 < 4) then guardK (decide (0 ≤ i5 ∧ i5 < ((l4n : Nat) : Int))) (((G.ld l4i (l4o + Int.toNat i5 * 1)).bind (Cell.asI .i64)).bind fun qx_2 => bif decide (qx_2 < 1) then hodmanref1_Of.J13 M C l4i l4o l4n i5 true r122_0 r122_1 r122_2 r122_3 r122_4 r122_5 x123_0 x123_1 x123_2 x123_3 x123_4 x123_5 x123_6 x123_7 G else guardK (decide (0 ≤ i5 ∧ i5 < ((l4n : Nat) : Int))) (((G.ld l4i (l4o + Int.toNat i5 * 1)).bind (Cell.asI .i64)).bind fun qx_3 => hodmanref1_Of.J13 M C l4i l4o l4n i5 (decide (qx_3 > 65536)) r122_0 r122_1 r122_2 r122_3 r122_4 r122_5 x123_0 x123_1 x123_2 x123_3 x123_4 x123_5 x123_6 x123_7 G)) else bif decide (r122_4 < 0) then hodmanref1_Of.J27 M C true r122_0 r122_1 r122_2 r122_3 r122_4 r122_5 x123_0 x123_1 x123_2 x123_3 x123_4 x123_5 x123_6 x123_7 G else bif decide (r122_4 > 65536) then hodmanref1_Of.J27 M C true r122_0 r122_1 r122_2 r122_3 r122_4 r122_5 x123_0 x123_1 x123_2 x123_3 x123_4 x123_5 x123_6 x123_7 G else bif decide (r122_5 < 0) then hodmanref1_Of.J27 M C true r122_0 r122_1 r122_2 r122_3 r122_4 r122_5 x123_0 x123_1 x123_2 x123_3 x123_4 x123_5 x123_6 x123_7 G else hodmanref1_Of.J27 M C (decide (r122_5 > 255)) r122_0 r122_1 r122_2 r122_3 r122_4 r122_5 x123_0 x123_1 x123_2 x123_3 x123_4 x123_5 x123_6 x123_7 G) := (M.hs _ _ _ _ _ _ _).trans (by kernel_rfl)
theorem hodmanref1_Of.J13_eq (M : Mach) (C : Call) (l4i : Nat) (l4o : Nat) (l4n : Nat) (i5 : Int) (t31 : Bool) (r122_0 : Int) (r122_1 : Int) (r122_2 : Int) (r122_3 : Int) (r122_4 : Int) (r122_5 : Int) (x123_0 : Int) (x123_1 : Int) (x123_2 : Int) (x123_3 : Int) (x123_4 : Int) (x123_5 : Int) (x123_6 : Int) (x123_7 : Int) (G : GH) : hodmanref1_Of.J13 M C l4i l4o l4n i5 t31 r122_0 r122_1 r122_2 r122_3 r122_4 r122_5 x123_0 x123_1 x123_2 x123_3 x123_4 x123_5 x123_6 x123_7 G = (bif t31 then some ([.agg [.int .i64 0, .int .i64 0, .int .i64 0, .int .i64 0, .int .i64 0, .int .i64 0, .int .i64 0, .int .i64 0], .c (.int .i64 1)], G) else hodmanref1_Of.L19 M C l4i l4o l4n (IntKind.i64.wrap (i5 + 1)) r122_0 r122_1 r122_2 r122_3 r122_4 r122_5 x123_0 x123_1 x123_2 x123_3 x123_4 x123_5 x123_6 x123_7 G) := (M.hj _ _ _).trans (by kernel_rfl)
theorem hodmanref1_Of.J27_eq (M : Mach) (C : Call) (t50 : Bool) (r122_0 : Int) (r122_1 : Int) (r122_2 : Int) (r122_3 : Int) (r122_4 : Int) (r122_5 : Int) (x123_0 : Int) (x123_1 : Int) (x123_2 : Int) (x123_3 : Int) (x123_4 : Int) (x123_5 : Int) (x123_6 : Int) (x123_7 : Int) (G : GH) : hodmanref1_Of.J27 M C t50 r122_0 r122_1 r122_2 r122_3 r122_4 r122_5 x123_0 x123_1 x123_2 x123_3 x123_4 x123_5 x123_6 x123_7 G = (bif t50 then some ([.agg [.int .i64 0, .int .i64 0, .int .i64 0, .int .i64 0, .int .i64 0, .int .i64 0, .int .i64 0, .int .i64 0], .c (.int .i64 1)], G) else (C hodmanref1_Up.id [.c (.int .i64 r122_0)] G).bind fun qr_4 => (((qr_4.1[0]?).bind V1.c?).bind (Cell.asI .i64)).bind fun qx_5 => (((qr_4.1[1]?).bind V1.c?).bind Cell.asB).bind fun qb_6 => (C hodmanref1_Up.id [.c (.int .i64 (mx2 r122_1 qx_5))] qr_4.2).bind fun qr_7 => (((qr_7.1[0]?).bind V1.c?).bind (Cell.asI .i64)).bind fun qx_8 => (((qr_7.1[1]?).bind V1.c?).bind Cell.asB).bind fun qb_9 => (C hodmanref1_Up.id [.c (.int .i64 (mx2 r122_3 qx_5))] qr_7.2).bind fun qr_10 => (((qr_10.1[0]?).bind V1.c?).bind (Cell.asI .i64)).bind fun qx_11 => (((qr_10.1[1]?).bind V1.c?).bind Cell.asB).bind fun qb_12 => (C hodmanref1_Round.id [.c (.int .i64 r122_2), .c (.int .i64 (IntKind.i64.wrap (2 * (mx2 qx_8 qx_11))))] qr_10.2).bind fun qr_13 => (((qr_13.1[0]?).bind V1.c?).bind (Cell.asI .i64)).bind fun qx_14 => (((qr_13.1[1]?).bind V1.c?).bind Cell.asB).bind fun qb_15 => (binD .quo .i64 qx_8 qx_5).bind fun qx_16 => (C hodmanref1_Log.id [.c (.int .i64 qx_16)] qr_13.2).bind fun qr_17 => (((qr_17.1[0]?).bind V1.c?).bind (Cell.asI .i64)).bind fun qx_18 => (((qr_17.1[1]?).bind V1.c?).bind Cell.asB).bind fun qb_19 => bif decide (IntKind.i64.wrap (qx_14 + (IntKind.i64.wrap (qx_18 * (IntKind.i64.wrap (Int.tdiv qx_14 2))))) > 65536) then some ([.agg [.int .i64 0, .int .i64 0, .int .i64 0, .int .i64 0, .int .i64 0, .int .i64 0, .int .i64 0, .int .i64 0], .c (.int .i64 1)], qr_17.2) else some ([.agg [.int .i64 qx_5, .int .i64 qx_8, .int .i64 qx_14, .int .i64 qx_18, .int .i64 qx_11, .int .i64 r122_4, .int .i64 (IntKind.i64.wrap (qx_14 + (IntKind.i64.wrap (qx_18 * (IntKind.i64.wrap (Int.tdiv qx_14 2)))))), .int .i64 r122_5], .c (.int .i64 0)], qr_17.2)) := (M.hj _ _ _).trans (by kernel_rfl)
def hodmanref1_Of.f (M : Mach) (C : Call) (r0_0 : Int) (r0_1 : Int) (r0_2 : Int) (r0_3 : Int) (r0_4 : Int) (r0_5 : Int) (G : GH) : Option Res := let qG_1 := G.alloc (.row [.int .i64 r0_0, .int .i64 r0_1, .int .i64 r0_2, .int .i64 r0_3] false); hodmanref1_Of.L19 M C G.next 0 4 0 r0_0 r0_1 r0_2 r0_3 r0_4 r0_5 0 0 0 0 0 0 0 0 qG_1
theorem hodmanref1_Of.eq (M : Mach) (C : Call) (r0_0 : Int) (r0_1 : Int) (r0_2 : Int) (r0_3 : Int) (r0_4 : Int) (r0_5 : Int) (G : GH) : runF M C hodmanref1_Of.d [.agg [.int .i64 r0_0, .int .i64 r0_1, .int .i64 r0_2, .int .i64 r0_3, .int .i64 r0_4, .int .i64 r0_5]] G = hodmanref1_Of.f M C r0_0 r0_1 r0_2 r0_3 r0_4 r0_5 G := by kernel_rfl

/- 33 hodman/hodmanref8.Met -/
def hodmanref8_Met.c6 : DCode := (.cond (.t 19) (.seq (.region [⟨0, some 6, .move (.k (.c (.sl 1 0 0 0))), none⟩]) .ret) .skip)
def hodmanref8_Met.c23 : DCode := (.region [⟨0, some 34, .move (.t 9), none⟩,
    ⟨1, some 35, .bin .add .i64 (.t 34) (.k (.c (.int .i64 1))), none⟩,
    ⟨2, some 9, .move (.t 35), none⟩])
def hodmanref8_Met.c25 : DCode := (.seq (.seq (.region [⟨0, some 30, .move (.t 9), none⟩,
    ⟨1, some 31, .move (.t 2), none⟩,
    ⟨2, some 32, .len (.t 31), none⟩,
    ⟨3, some 33, .cmp .lss .i64 (.t 30) (.t 32), none⟩]) (.cond (.t 33) .skip (.exit 2))) (.seq (.block 3 (.region [⟨0, some 36, .move (.t 7), none⟩,
    ⟨1, some 37, .move (.t 8), none⟩,
    ⟨2, some 38, .move (.t 7), none⟩,
    ⟨3, some 39, .move (.t 8), none⟩,
    ⟨4, some 40, .iaddr (.t 38) (.t 39) 1, none⟩,
    ⟨5, some 41, .ldG 40 (.c (.bool)), none⟩,
    ⟨6, some 42, .move (.t 41), none⟩,
    ⟨7, some 43, .move (.t 8), some (42, false)⟩,
    ⟨8, some 44, .move (.t 0), some (42, false)⟩,
    ⟨9, some 45, .bin .mul .i64 (.t 43) (.t 44), some (42, false)⟩,
    ⟨10, some 46, .move (.t 0), some (42, false)⟩,
    ⟨11, some 47, .build [.int .i64 0, .int .i64 0] [(0, 1, .t 45), (1, 1, .t 46)], some (42, false)⟩,
    ⟨12, some 48, .move (.t 2), some (42, false)⟩,
    ⟨13, some 49, .move (.t 9), some (42, false)⟩,
    ⟨14, some 50, .iaddr (.t 48) (.t 49) 3, some (42, false)⟩,
    ⟨15, some 51, .faddr 50 0, some (42, false)⟩,
    ⟨16, some 52, .ldG 51 (.c (.int .i64)), some (42, false)⟩,
    ⟨17, some 53, .move (.t 2), some (42, false)⟩,
    ⟨18, some 54, .move (.t 9), some (42, false)⟩,
    ⟨19, some 55, .iaddr (.t 53) (.t 54) 3, some (42, false)⟩,
    ⟨20, some 56, .faddr 55 1, some (42, false)⟩,
    ⟨21, some 57, .ldG 56 (.c (.int .i64)), some (42, false)⟩,
    ⟨22, some 58, .build [.int .i64 0, .int .i64 0] [(0, 1, .t 52), (1, 1, .t 57)], some (42, false)⟩,
    ⟨23, some 59, .call 52 [.t 47, .t 58] [.c (.bool)], some (42, false)⟩,
    ⟨24, some 60, .pick (.t 42) (.k (.c (.bool true))) (.t 59), none⟩,
    ⟨25, some 61, .iaddr (.t 36) (.t 37) 1, none⟩,
    ⟨26, none, .stG 61 (.t 60) 1, none⟩])) (.cut [0, 2, 7, 8, 9] hodmanref8_Met.c23)))
def hodmanref8_Met.c26 : DCode := (.loop [0, 2, 7, 8, 9] hodmanref8_Met.c25)
def hodmanref8_Met.c30 : DCode := (.region [⟨0, some 28, .move (.t 8), none⟩,
    ⟨1, some 29, .bin .add .i64 (.t 28) (.k (.c (.int .i64 1))), none⟩,
    ⟨2, some 8, .move (.t 29), none⟩])
def hodmanref8_Met.c32 : DCode := (.seq (.seq (.region [⟨0, some 24, .move (.t 8), none⟩,
    ⟨1, some 25, .move (.t 7), none⟩,
    ⟨2, some 26, .len (.t 25), none⟩,
    ⟨3, some 27, .cmp .lss .i64 (.t 24) (.t 26), none⟩]) (.cond (.t 27) .skip (.exit 0))) (.seq (.block 1 (.seq (.region [⟨0, some 9, .move (.k (.c (.int .i64 0))), none⟩]) (.block 2 hodmanref8_Met.c26))) hodmanref8_Met.c30))
def hodmanref8_Met.c33 : DCode := (.loop [0, 2, 7, 8] hodmanref8_Met.c32)
def hodmanref8_Met.c38 : DCode := (.seq (.region [⟨0, some 62, .move (.t 7), none⟩,
    ⟨1, some 6, .move (.t 62), none⟩]) .ret)
def hodmanref8_Met.c40 : DCode := (.seq (.region [⟨0, some 20, .move (.t 1), none⟩,
    ⟨1, some 21, .move (.t 0), none⟩,
    ⟨2, some 22, .bin .quo .i64 (.t 20) (.t 21), none⟩,
    ⟨3, some 23, .mkslice (.t 22) 1 1 [.bool false], none⟩,
    ⟨4, some 7, .move (.t 23), none⟩]) (.seq (.seq (.region [⟨0, some 8, .move (.k (.c (.int .i64 0))), none⟩]) (.block 0 hodmanref8_Met.c33)) hodmanref8_Met.c38))
def hodmanref8_Met.d : DFn := { ntmps := 63, res := [.t 6], body := (.seq (.region [⟨0, some 6, .move (.k (.c (.sl 1 0 0 0))), none⟩]) (.seq (.seq (.region [⟨0, some 10, .move (.t 0), none⟩,
    ⟨1, some 11, .cmp .lss .i64 (.t 10) (.k (.c (.int .i64 1))), none⟩,
    ⟨2, some 12, .move (.t 11), none⟩,
    ⟨3, some 13, .move (.t 1), some (12, false)⟩,
    ⟨4, some 14, .cmp .lss .i64 (.t 13) (.k (.c (.int .i64 0))), some (12, false)⟩,
    ⟨5, some 15, .pick (.t 12) (.k (.c (.bool true))) (.t 14), none⟩,
    ⟨6, some 16, .move (.t 15), none⟩,
    ⟨7, some 17, .move (.t 1), some (16, false)⟩,
    ⟨8, some 18, .cmp .gtr .i64 (.t 17) (.k (.c (.int .i64 65536))), some (16, false)⟩,
    ⟨9, some 19, .pick (.t 16) (.k (.c (.bool true))) (.t 18), none⟩]) (.cut [0, 1, 2, 19] hodmanref8_Met.c6)) hodmanref8_Met.c40)) }
def hodmanref8_Met.k40 (M : Mach) (C : Call) : Kont := execC M.j C (M.ag C) hodmanref8_Met.c40 ({ exits := [], ret := retK hodmanref8_Met.d } : Env) (retK hodmanref8_Met.d)
def hodmanref8_Met.J6 (M : Mach) (C : Call) (page0 : Int) (size1 : Int) (l2i : Nat) (l2o : Nat) (l2n : Nat) (t19 : Bool) (G : GH) : Option Res := M.j (execC M.j C (M.ag C) hodmanref8_Met.c6 ({ exits := [], ret := retK hodmanref8_Met.d } : Env) (hodmanref8_Met.k40 M C)) [.v (.c (.int .i64 page0)), .v (.c (.int .i64 size1)), .v (.c (.sl 3 l2i l2o l2n)), .und, .und, .und, .und, .und, .und, .und, .und, .und, .und, .und, .und, .und, .und, .und, .und, .v (.c (.bool t19)), .und, .und, .und, .und, .und, .und, .und, .und, .und, .und, .und, .und, .und, .und, .und, .und, .und, .und, .und, .und, .und, .und, .und, .und, .und, .und, .und, .und, .und, .und, .und, .und, .und, .und, .und, .und, .und, .und, .und, .und, .und, .und, .und] G
def hodmanref8_Met.k38 (M : Mach) (C : Call) : Kont := execC M.j C (M.ag C) hodmanref8_Met.c38 ({ exits := [], ret := retK hodmanref8_Met.d } : Env) (retK hodmanref8_Met.d)
def hodmanref8_Met.e34 (M : Mach) (C : Call) : Env := { exits := (0, (hodmanref8_Met.k38 M C)) :: (({ exits := [], ret := retK hodmanref8_Met.d } : Env)).exits, ret := (({ exits := [], ret := retK hodmanref8_Met.d } : Env)).ret }
def hodmanref8_Met.L33 (M : Mach) (C : Call) (page0 : Int) (l2i : Nat) (l2o : Nat) (l2n : Nat) (out7i : Nat) (out7o : Nat) (out7n : Nat) (i8 : Int) (G : GH) : Option Res := M.ag C [0, 2, 7, 8] hodmanref8_Met.c32 (hodmanref8_Met.e34 M C) (hodmanref8_Met.k38 M C) [.v (.c (.int .i64 page0)), .und, .v (.c (.sl 3 l2i l2o l2n)), .und, .und, .und, .und, .v (.c (.sl 1 out7i out7o out7n)), .v (.c (.int .i64 i8)), .und, .und, .und, .und, .und, .und, .und, .und, .und, .und, .und, .und, .und, .und, .und, .und, .und, .und, .und, .und, .und, .und, .und, .und, .und, .und, .und, .und, .und, .und, .und, .und, .und, .und, .und, .und, .und, .und, .und, .und, .und, .und, .und, .und, .und, .und, .und, .und, .und, .und, .und, .und, .und, .und] G
def hodmanref8_Met.k33 (M : Mach) (C : Call) : Kont := fun tm G => M.ag C [0, 2, 7, 8] hodmanref8_Met.c32 (hodmanref8_Met.e34 M C) (hodmanref8_Met.k38 M C) (restr [0, 2, 7, 8] 0 tm) G
def hodmanref8_Met.k30 (M : Mach) (C : Call) : Kont := execC M.j C (M.ag C) hodmanref8_Met.c30 (hodmanref8_Met.e34 M C) (hodmanref8_Met.k33 M C)
def hodmanref8_Met.e29 (M : Mach) (C : Call) : Env := { exits := (1, (hodmanref8_Met.k30 M C)) :: ((hodmanref8_Met.e34 M C)).exits, ret := ((hodmanref8_Met.e34 M C)).ret }
def hodmanref8_Met.e27 (M : Mach) (C : Call) : Env := { exits := (2, (hodmanref8_Met.k30 M C)) :: ((hodmanref8_Met.e29 M C)).exits, ret := ((hodmanref8_Met.e29 M C)).ret }
def hodmanref8_Met.L26 (M : Mach) (C : Call) (page0 : Int) (l2i : Nat) (l2o : Nat) (l2n : Nat) (out7i : Nat) (out7o : Nat) (out7n : Nat) (i8 : Int) (k9 : Int) (G : GH) : Option Res := M.ag C [0, 2, 7, 8, 9] hodmanref8_Met.c25 (hodmanref8_Met.e27 M C) (hodmanref8_Met.k30 M C) [.v (.c (.int .i64 page0)), .und, .v (.c (.sl 3 l2i l2o l2n)), .und, .und, .und, .und, .v (.c (.sl 1 out7i out7o out7n)), .v (.c (.int .i64 i8)), .v (.c (.int .i64 k9)), .und, .und, .und, .und, .und, .und, .und, .und, .und, .und, .und, .und, .und, .und, .und, .und, .und, .und, .und, .und, .und, .und, .und, .und, .und, .und, .und, .und, .und, .und, .und, .und, .und, .und, .und, .und, .und, .und, .und, .und, .und, .und, .und, .und, .und, .und, .und, .und, .und, .und, .und, .und, .und] G
def hodmanref8_Met.k26 (M : Mach) (C : Call) : Kont := fun tm G => M.ag C [0, 2, 7, 8, 9] hodmanref8_Met.c25 (hodmanref8_Met.e27 M C) (hodmanref8_Met.k30 M C) (restr [0, 2, 7, 8, 9] 0 tm) G
def hodmanref8_Met.J23 (M : Mach) (C : Call) (page0 : Int) (l2i : Nat) (l2o : Nat) (l2n : Nat) (out7i : Nat) (out7o : Nat) (out7n : Nat) (i8 : Int) (k9 : Int) (G : GH) : Option Res := M.j (execC M.j C (M.ag C) hodmanref8_Met.c23 (hodmanref8_Met.e27 M C) (hodmanref8_Met.k26 M C)) [.v (.c (.int .i64 page0)), .und, .v (.c (.sl 3 l2i l2o l2n)), .und, .und, .und, .und, .v (.c (.sl 1 out7i out7o out7n)), .v (.c (.int .i64 i8)), .v (.c (.int .i64 k9)), .und, .und, .und, .und, .und, .und, .und, .und, .und, .und, .und, .und, .und, .und, .und, .und, .und, .und, .und, .und, .und, .und, .und, .und, .und, .und, .und, .und, .und, .und, .und, .und, .und, .und, .und, .und, .und, .und, .und, .und, .und, .und, .und, .und, .und, .und, .und, .und, .und, .und, .und, .und, .und] G
theorem hodmanref8_Met.J6_eq (M : Mach) (C : Call) (page0 : Int) (size1 : Int) (l2i : Nat) (l2o : Nat) (l2n : Nat) (t19 : Bool) (G : GH) : hodmanref8_Met.J6 M C page0 size1 l2i l2o l2n t19 G = (bif t19 then some ([.c (.sl 1 0 0 0)], G) else (binD .quo .i64 size1 page0).bind fun qx_1 => guardK (decide (0 ≤ qx_1 ∧ qx_1 ≤ (most : Int))) (let qG_2 := G.alloc (.row (reps (Int.toNat qx_1) [.bool false]) false); hodmanref8_Met.L33 M C page0 l2i l2o l2n G.next 0 (Int.toNat qx_1) 0 qG_2)) := (M.hj _ _ _).trans (by kernel_rfl)
theorem hodmanref8_Met.L33_eq (M : Mach) (C : Call) (page0 : Int) (l2i : Nat) (l2o : Nat) (l2n : Nat) (out7i : Nat) (out7o : Nat) (out7n : Nat) (i8 : Int) (G : GH) : hodmanref8_Met.L33 M C page0 l2i l2o l2n out7i out7o out7n i8 G = (bif decide (i8 < ((out7n : Nat) : Int)) then hodmanref8_Met.L26 M C page0 l2i l2o l2n out7i out7o out7n i8 0 G else some ([.c (.sl 1 out7i out7o out7n)], G)) := (M.hs _ _ _ _ _ _ _).trans (by kernel_rfl)
theorem hodmanref8_Met.L26_eq (M : Mach) (C : Call) (page0 : Int) (l2i : Nat) (l2o : Nat) (l2n : Nat) (out7i : Nat) (out7o : Nat) (out7n : Nat) (i8 : Int) (k9 : Int) (G : GH) : hodmanref8_Met.L26 M C page0 l2i l2o l2n out7i out7o out7n i8 k9 G = (bif decide (k9 < ((l2n : Nat) : Int)) then guardK (decide (0 ≤ i8 ∧ i8 < ((out7n : Nat) : Int))) (((G.ld out7i (out7o + Int.toNat i8 * 1)).bind Cell.asB).bind fun qb_3 => bif qb_3 then guardK (decide (0 ≤ i8 ∧ i8 < ((out7n : Nat) : Int))) ((G.sts out7i (out7o + Int.toNat i8 * 1) [.bool true]).bind fun qG_4 => hodmanref8_Met.J23 M C page0 l2i l2o l2n out7i out7o out7n i8 k9 qG_4) else guardK (decide (0 ≤ k9 ∧ k9 < ((l2n : Nat) : Int))) (((G.ld l2i ((l2o + Int.toNat k9 * 3) + 0)).bind (Cell.asI .i64)).bind fun qx_5 => guardK (decide (0 ≤ k9 ∧ k9 < ((l2n : Nat) : Int))) (((G.ld l2i ((l2o + Int.toNat k9 * 3) + 1)).bind (Cell.asI .i64)).bind fun qx_6 => (C hodmanref8_Over.id [.agg [.int .i64 (IntKind.i64.wrap (i8 * page0)), .int .i64 page0], .agg [.int .i64 qx_5, .int .i64 qx_6]] G).bind fun qr_7 => (((qr_7.1[0]?).bind V1.c?).bind Cell.asB).bind fun qb_8 => guardK (decide (0 ≤ i8 ∧ i8 < ((out7n : Nat) : Int))) ((qr_7.2.sts out7i (out7o + Int.toNat i8 * 1) [.bool qb_8]).bind fun qG_9 => hodmanref8_Met.J23 M C page0 l2i l2o l2n out7i out7o out7n i8 k9 qG_9)))) else hodmanref8_Met.L33 M C page0 l2i l2o l2n out7i out7o out7n (IntKind.i64.wrap (i8 + 1)) G) := (M.hs _ _ _ _ _ _ _).trans (by kernel_rfl)
theorem hodmanref8_Met.J23_eq (M : Mach) (C : Call) (page0 : Int) (l2i : Nat) (l2o : Nat) (l2n : Nat) (out7i : Nat) (out7o : Nat) (out7n : Nat) (i8 : Int) (k9 : Int) (G : GH) : hodmanref8_Met.J23 M C page0 l2i l2o l2n out7i out7o out7n i8 k9 G = (hodmanref8_Met.L26 M C page0 l2i l2o l2n out7i out7o out7n i8 (IntKind.i64.wrap (k9 + 1)) G) := (M.hj _ _ _).trans (by kernel_rfl)
def hodmanref8_Met.f (M : Mach) (C : Call) (page0 : Int) (size1 : Int) (l2i : Nat) (l2o : Nat) (l2n : Nat) (G : GH) : Option Res := bif decide (page0 < 1) then hodmanref8_Met.J6 M C page0 size1 l2i l2o l2n true G else bif decide (size1 < 0) then hodmanref8_Met.J6 M C page0 size1 l2i l2o l2n true G else hodmanref8_Met.J6 M C page0 size1 l2i l2o l2n (decide (size1 > 65536)) G
theorem hodmanref8_Met.eq (M : Mach) (C : Call) (page0 : Int) (size1 : Int) (l2i : Nat) (l2o : Nat) (l2n : Nat) (G : GH) : runF M C hodmanref8_Met.d [.c (.int .i64 page0), .c (.int .i64 size1), .c (.sl 3 l2i l2o l2n)] G = hodmanref8_Met.f M C page0 size1 l2i l2o l2n G := by kernel_rfl

/- 20 hodman/hodmanlaw24.begun -/
def hodmanlaw24_begun.d : DFn := { ntmps := 75, res := [.t 0], body := (.seq (.region [⟨0, some 0, .move (.k (.c (.bool false))), none⟩]) (.seq (.region [⟨0, some 8, .build [.int .i64 0, .int .i64 0, .int .i64 0, .int .i64 0, .int .i64 0, .int .i64 0] [(0, 1, .k (.c (.int .i64 1))), (1, 1, .k (.c (.int .i64 4))), (2, 1, .k (.c (.int .i64 8))), (3, 1, .k (.c (.int .i64 4))), (4, 1, .k (.c (.int .i64 6)))], none⟩,
    ⟨1, some 9, .call 15 [.t 8] [.agg [.int .i64, .int .i64, .int .i64, .int .i64, .int .i64, .int .i64, .int .i64, .int .i64, .sl 3, .int .i64, .int .i64, .int .i64, .sl 1, .sl 1], .c (.int .i64)], none⟩,
    ⟨2, some 7, .move (.t 9), none⟩,
    ⟨3, some 10, .ext 7 0, none⟩,
    ⟨4, some 11, .ext 7 1, none⟩,
    ⟨5, some 1, .boxz 73 [26] [.int .i64 0, .int .i64 0, .int .i64 0, .int .i64 0, .int .i64 0, .int .i64 0, .int .i64 0, .int .i64 0, .sl 3 0 0 0, .int .i64 0, .int .i64 0, .int .i64 0, .sl 1 0 0 0, .sl 1 0 0 0], none⟩,
    ⟨6, none, .stL 1 73 (.t 10) 14, none⟩,
    ⟨7, some 2, .move (.t 11), none⟩]) (.seq (.region [⟨0, some 12, .build [.int .i64 0, .int .i64 0, .int .i64 0, .int .i64 0, .int .i64 0, .int .u8 0] [(0, 1, .k (.c (.int .i64 1))), (2, 1, .k (.c (.int .i64 3)))], none⟩,
    ⟨1, some 13, .build [.int .i64 0, .int .i64 0, .int .i64 0, .int .i64 0, .int .i64 0, .int .u8 0] [(0, 1, .k (.c (.int .i64 9)))], none⟩,
    ⟨2, some 14, .build [.int .i64 0, .int .i64 0, .int .i64 0, .int .i64 0, .int .i64 0, .int .u8 0] [(0, 1, .k (.c (.int .i64 7))), (1, 1, .k (.c (.int .i64 0))), (4, 1, .k (.c (.int .i64 1)))], none⟩,
    ⟨3, some 15, .build [.int .i64 0, .int .i64 0, .int .i64 0, .int .i64 0, .int .i64 0, .int .u8 0] [(0, 1, .k (.c (.int .i64 5))), (1, 1, .k (.c (.int .i64 5)))], none⟩,
    ⟨4, some 16, .build [.int .i64 0, .int .i64 0, .int .i64 0, .int .i64 0, .int .i64 0, .int .u8 0] [(0, 1, .k (.c (.int .i64 8))), (1, 1, .k (.c (.int .i64 0))), (4, 1, .k (.c (.int .i64 1))), (5, 1, .k (.c (.int .u8 9)))], none⟩,
    ⟨5, some 17, .build [.int .i64 0, .int .i64 0, .int .i64 0, .int .i64 0, .int .i64 0, .int .u8 0] [(0, 1, .k (.c (.int .i64 7))), (1, 1, .k (.c (.int .i64 0))), (4, 1, .k (.c (.int .i64 1)))], none⟩,
    ⟨6, some 18, .build [.int .i64 0, .int .i64 0, .int .i64 0, .int .i64 0, .int .i64 0, .int .u8 0] [(0, 1, .k (.c (.int .i64 10)))], none⟩,
    ⟨7, some 19, .bslice 7 6 [.int .i64 0, .int .i64 0, .int .i64 0, .int .i64 0, .int .i64 0, .int .u8 0, .int .i64 0, .int .i64 0, .int .i64 0, .int .i64 0, .int .i64 0, .int .u8 0, .int .i64 0, .int .i64 0, .int .i64 0, .int .i64 0, .int .i64 0, .int .u8 0, .int .i64 0, .int .i64 0, .int .i64 0, .int .i64 0, .int .i64 0, .int .u8 0, .int .i64 0, .int .i64 0, .int .i64 0, .int .i64 0, .int .i64 0, .int .u8 0, .int .i64 0, .int .i64 0, .int .i64 0, .int .i64 0, .int .i64 0, .int .u8 0, .int .i64 0, .int .i64 0, .int .i64 0, .int .i64 0, .int .i64 0, .int .u8 0] [(0, 6, .t 12), (6, 6, .t 13), (12, 6, .t 14), (18, 6, .t 15), (24, 6, .t 16), (30, 6, .t 17), (36, 6, .t 18)], none⟩,
    ⟨8, some 3, .move (.t 19), none⟩]) (.seq (.region [⟨0, some 21, .ldL 1 73 (.agg [.int .i64, .int .i64, .int .i64, .int .i64, .int .i64, .int .i64, .int .i64, .int .i64, .sl 3, .int .i64, .int .i64, .int .i64, .sl 1, .sl 1]), none⟩,
    ⟨1, some 22, .move (.t 3), none⟩,
    ⟨2, some 23, .call 22 [.t 21, .t 22] [.agg [.int .i64, .int .i64, .int .i64, .int .i64, .int .i64, .int .i64, .int .i64, .int .i64, .sl 3, .int .i64, .int .i64, .int .i64, .sl 1, .sl 1], .c (.sl 8)], none⟩,
    ⟨3, some 20, .move (.t 23), none⟩,
    ⟨4, some 24, .ext 20 0, none⟩,
    ⟨5, some 25, .ext 20 1, none⟩,
    ⟨6, some 4, .boxz 74 [] [.int .i64 0, .int .i64 0, .int .i64 0, .int .i64 0, .int .i64 0, .int .i64 0, .int .i64 0, .int .i64 0, .sl 3 0 0 0, .int .i64 0, .int .i64 0, .int .i64 0, .sl 1 0 0 0, .sl 1 0 0 0], none⟩,
    ⟨7, none, .stL 4 74 (.t 24) 14, none⟩,
    ⟨8, some 5, .move (.t 25), none⟩]) (.seq (.region [⟨0, some 26, .faddr 1 0, none⟩,
    ⟨1, some 27, .ldL 26 73 (.agg [.int .i64, .int .i64, .int .i64, .int .i64, .int .i64, .int .i64, .int .i64, .int .i64]), none⟩,
    ⟨2, some 28, .move (.t 3), none⟩,
    ⟨3, some 29, .move (.t 5), none⟩,
    ⟨4, some 30, .call 24 [.t 27, .t 28, .t 29] [.c (.sl 8)], none⟩,
    ⟨5, some 6, .move (.t 30), none⟩]) (.seq (.region [⟨0, some 31, .move (.t 6), none⟩,
    ⟨1, some 32, .len (.t 31), none⟩,
    ⟨2, some 33, .cmp .eql .i64 (.t 32) (.k (.c (.int .i64 5))), none⟩,
    ⟨3, some 34, .move (.t 33), none⟩,
    ⟨4, some 35, .move (.t 6), some (34, true)⟩,
    ⟨5, some 36, .iaddr (.t 35) (.k (.c (.int .i64 1))) 8, some (34, true)⟩,
    ⟨6, some 37, .faddr 36 3, some (34, true)⟩,
    ⟨7, some 38, .ldG 37 (.c (.int .u8)), some (34, true)⟩,
    ⟨8, some 39, .cmp .eql .u8 (.t 38) (.k (.c (.int .u8 0))), some (34, true)⟩,
    ⟨9, some 40, .pick (.t 34) (.t 39) (.k (.c (.bool false))), none⟩,
    ⟨10, some 41, .move (.t 40), none⟩,
    ⟨11, some 42, .move (.t 6), some (41, true)⟩,
    ⟨12, some 43, .iaddr (.t 42) (.k (.c (.int .i64 3))) 8, some (41, true)⟩,
    ⟨13, some 44, .faddr 43 3, some (41, true)⟩,
    ⟨14, some 45, .ldG 44 (.c (.int .u8)), some (41, true)⟩,
    ⟨15, some 46, .cmp .eql .u8 (.t 45) (.k (.c (.int .u8 9))), some (41, true)⟩,
    ⟨16, some 47, .pick (.t 41) (.t 46) (.k (.c (.bool false))), none⟩,
    ⟨17, some 48, .move (.t 47), none⟩,
    ⟨18, some 49, .move (.t 6), some (48, true)⟩,
    ⟨19, some 50, .iaddr (.t 49) (.k (.c (.int .i64 4))) 8, some (48, true)⟩,
    ⟨20, some 51, .faddr 50 4, some (48, true)⟩,
    ⟨21, some 52, .ldG 51 (.c (.int .i64)), some (48, true)⟩,
    ⟨22, some 53, .cmp .eql .i64 (.t 52) (.k (.c (.int .i64 4))), some (48, true)⟩,
    ⟨23, some 54, .pick (.t 48) (.t 53) (.k (.c (.bool false))), none⟩,
    ⟨24, some 55, .move (.t 54), none⟩,
    ⟨25, some 56, .move (.t 6), some (55, true)⟩,
    ⟨26, some 57, .iaddr (.t 56) (.k (.c (.int .i64 4))) 8, some (55, true)⟩,
    ⟨27, some 58, .faddr 57 7, some (55, true)⟩,
    ⟨28, some 59, .ldG 58 (.c (.int .i64)), some (55, true)⟩,
    ⟨29, some 60, .cmp .eql .i64 (.t 59) (.k (.c (.int .i64 0))), some (55, true)⟩,
    ⟨30, some 61, .pick (.t 55) (.t 60) (.k (.c (.bool false))), none⟩,
    ⟨31, some 62, .move (.t 61), none⟩,
    ⟨32, some 63, .move (.t 6), some (62, true)⟩,
    ⟨33, some 64, .move (.t 6), some (62, true)⟩,
    ⟨34, some 65, .call 26 [.t 63, .t 64] [.c (.bool)], some (62, true)⟩,
    ⟨35, some 66, .pick (.t 62) (.t 65) (.k (.c (.bool false))), none⟩,
    ⟨36, some 67, .move (.t 66), none⟩,
    ⟨37, some 68, .move (.t 6), some (67, true)⟩,
    ⟨38, some 69, .move (.t 5), some (67, true)⟩,
    ⟨39, some 70, .call 26 [.t 68, .t 69] [.c (.bool)], some (67, true)⟩,
    ⟨40, some 71, .not (.t 70), some (67, true)⟩,
    ⟨41, some 72, .pick (.t 67) (.t 71) (.k (.c (.bool false))), none⟩,
    ⟨42, some 0, .move (.t 72), none⟩]) .ret)))))) }
def hodmanlaw24_begun.f (M : Mach) (C : Call)  (G : GH) : Option Res := (C hodmanref17_New.id [.agg [.int .i64 1, .int .i64 4, .int .i64 8, .int .i64 4, .int .i64 6, .int .i64 0]] G).bind fun qr_1 => ((qr_1.1[0]?).bind V1.a?).bind fun qcs_2 => if qcs_2.length = 14 then (((qcs_2[0]?).bind (Cell.asI .i64)).bind fun qx_3 => ((qcs_2[1]?).bind (Cell.asI .i64)).bind fun qx_4 => ((qcs_2[2]?).bind (Cell.asI .i64)).bind fun qx_5 => ((qcs_2[3]?).bind (Cell.asI .i64)).bind fun qx_6 => ((qcs_2[4]?).bind (Cell.asI .i64)).bind fun qx_7 => ((qcs_2[5]?).bind (Cell.asI .i64)).bind fun qx_8 => ((qcs_2[6]?).bind (Cell.asI .i64)).bind fun qx_9 => ((qcs_2[7]?).bind (Cell.asI .i64)).bind fun qx_10 => ((qcs_2[8]?).bind (Cell.asS 3)).bind fun qs_11 => ((qcs_2[9]?).bind (Cell.asI .i64)).bind fun qx_12 => ((qcs_2[10]?).bind (Cell.asI .i64)).bind fun qx_13 => ((qcs_2[11]?).bind (Cell.asI .i64)).bind fun qx_14 => ((qcs_2[12]?).bind (Cell.asS 1)).bind fun qs_15 => ((qcs_2[13]?).bind (Cell.asS 1)).bind fun qs_16 => (((qr_1.1[1]?).bind V1.c?).bind (Cell.asI .i64)).bind fun qx_17 => let qG_18 := qr_1.2.alloc (.row [.int .i64 1, .int .i64 0, .int .i64 3, .int .i64 0, .int .i64 0, .int .u8 0, .int .i64 9, .int .i64 0, .int .i64 0, .int .i64 0, .int .i64 0, .int .u8 0, .int .i64 7, .int .i64 0, .int .i64 0, .int .i64 0, .int .i64 1, .int .u8 0, .int .i64 5, .int .i64 5, .int .i64 0, .int .i64 0, .int .i64 0, .int .u8 0, .int .i64 8, .int .i64 0, .int .i64 0, .int .i64 0, .int .i64 1, .int .u8 9, .int .i64 7, .int .i64 0, .int .i64 0, .int .i64 0, .int .i64 1, .int .u8 0, .int .i64 10, .int .i64 0, .int .i64 0, .int .i64 0, .int .i64 0, .int .u8 0] false); (C hodmanref17_All.id [.agg [.int .i64 qx_3, .int .i64 qx_4, .int .i64 qx_5, .int .i64 qx_6, .int .i64 qx_7, .int .i64 qx_8, .int .i64 qx_9, .int .i64 qx_10, .sl 3 qs_11.1 qs_11.2.1 qs_11.2.2, .int .i64 qx_12, .int .i64 qx_13, .int .i64 qx_14, .sl 1 qs_15.1 qs_15.2.1 qs_15.2.2, .sl 1 qs_16.1 qs_16.2.1 qs_16.2.2], .c (.sl 6 qr_1.2.next 0 7)] qG_18).bind fun qr_19 => ((qr_19.1[0]?).bind V1.a?).bind fun qcs_20 => if qcs_20.length = 14 then (((qcs_20[0]?).bind (Cell.asI .i64)).bind fun qx_21 => ((qcs_20[1]?).bind (Cell.asI .i64)).bind fun qx_22 => ((qcs_20[2]?).bind (Cell.asI .i64)).bind fun qx_23 => ((qcs_20[3]?).bind (Cell.asI .i64)).bind fun qx_24 => ((qcs_20[4]?).bind (Cell.asI .i64)).bind fun qx_25 => ((qcs_20[5]?).bind (Cell.asI .i64)).bind fun qx_26 => ((qcs_20[6]?).bind (Cell.asI .i64)).bind fun qx_27 => ((qcs_20[7]?).bind (Cell.asI .i64)).bind fun qx_28 => ((qcs_20[8]?).bind (Cell.asS 3)).bind fun qs_29 => ((qcs_20[9]?).bind (Cell.asI .i64)).bind fun qx_30 => ((qcs_20[10]?).bind (Cell.asI .i64)).bind fun qx_31 => ((qcs_20[11]?).bind (Cell.asI .i64)).bind fun qx_32 => ((qcs_20[12]?).bind (Cell.asS 1)).bind fun qs_33 => ((qcs_20[13]?).bind (Cell.asS 1)).bind fun qs_34 => (((qr_19.1[1]?).bind V1.c?).bind (Cell.asS 8)).bind fun qs_35 => (C same_Plain.id [.agg [.int .i64 qx_3, .int .i64 qx_4, .int .i64 qx_5, .int .i64 qx_6, .int .i64 qx_7, .int .i64 qx_8, .int .i64 qx_9, .int .i64 qx_10], .c (.sl 6 qr_1.2.next 0 7), .c (.sl 8 qs_35.1 qs_35.2.1 qs_35.2.2)] qr_19.2).bind fun qr_36 => (((qr_36.1[0]?).bind V1.c?).bind (Cell.asS 8)).bind fun qs_37 => bif decide (((qs_37.2.2 : Nat) : Int) = 5) then guardK (decide (0 ≤ (1 : Int) ∧ (1 : Int) < ((qs_37.2.2 : Nat) : Int))) (((qr_36.2.ld qs_37.1 ((qs_37.2.1 + Int.toNat 1 * 8) + 3)).bind (Cell.asI .u8)).bind fun qx_38 => bif decide (qx_38 = 0) then guardK (decide (0 ≤ (3 : Int) ∧ (3 : Int) < ((qs_37.2.2 : Nat) : Int))) (((qr_36.2.ld qs_37.1 ((qs_37.2.1 + Int.toNat 3 * 8) + 3)).bind (Cell.asI .u8)).bind fun qx_39 => bif decide (qx_39 = 9) then guardK (decide (0 ≤ (4 : Int) ∧ (4 : Int) < ((qs_37.2.2 : Nat) : Int))) (((qr_36.2.ld qs_37.1 ((qs_37.2.1 + Int.toNat 4 * 8) + 4)).bind (Cell.asI .i64)).bind fun qx_40 => bif decide (qx_40 = 4) then guardK (decide (0 ≤ (4 : Int) ∧ (4 : Int) < ((qs_37.2.2 : Nat) : Int))) (((qr_36.2.ld qs_37.1 ((qs_37.2.1 + Int.toNat 4 * 8) + 7)).bind (Cell.asI .i64)).bind fun qx_41 => bif decide (qx_41 = 0) then (C same_Same.id [.c (.sl 8 qs_37.1 qs_37.2.1 qs_37.2.2), .c (.sl 8 qs_37.1 qs_37.2.1 qs_37.2.2)] qr_36.2).bind fun qr_42 => (((qr_42.1[0]?).bind V1.c?).bind Cell.asB).bind fun qb_43 => bif qb_43 then (C same_Same.id [.c (.sl 8 qs_37.1 qs_37.2.1 qs_37.2.2), .c (.sl 8 qs_35.1 qs_35.2.1 qs_35.2.2)] qr_42.2).bind fun qr_44 => (((qr_44.1[0]?).bind V1.c?).bind Cell.asB).bind fun qb_45 => some ([.c (.bool (!qb_45))], qr_44.2) else some ([.c (.bool false)], qr_42.2) else some ([.c (.bool false)], qr_36.2)) else some ([.c (.bool false)], qr_36.2)) else some ([.c (.bool false)], qr_36.2)) else some ([.c (.bool false)], qr_36.2)) else some ([.c (.bool false)], qr_36.2)) else none) else none
theorem hodmanlaw24_begun.eq (M : Mach) (C : Call)  (G : GH) : runF M C hodmanlaw24_begun.d [] G = hodmanlaw24_begun.f M C  G := by kernel_rfl

/- 22 hodman/hodmanref17.All -/
def hodmanref17_All.c14 : DCode := (.seq (.seq (.region [⟨0, some 10, .move (.t 7), none⟩,
    ⟨1, some 11, .move (.t 1), none⟩,
    ⟨2, some 12, .len (.t 11), none⟩,
    ⟨3, some 13, .cmp .lss .i64 (.t 10) (.t 12), none⟩]) (.cond (.t 13) .skip (.exit 0))) (.seq (.block 1 (.seq (.region [⟨0, some 17, .ldL 2 32 (.agg [.int .i64, .int .i64, .int .i64, .int .i64, .int .i64, .int .i64, .int .i64, .int .i64, .sl 3, .int .i64, .int .i64, .int .i64, .sl 1, .sl 1]), none⟩,
    ⟨1, some 18, .move (.t 1), none⟩,
    ⟨2, some 19, .move (.t 7), none⟩,
    ⟨3, some 20, .iaddr (.t 18) (.t 19) 6, none⟩,
    ⟨4, some 21, .ldG 20 (.agg [.int .i64, .int .i64, .int .i64, .int .i64, .int .i64, .int .u8]), none⟩,
    ⟨5, some 22, .call 18 [.t 17, .t 21] [.agg [.int .i64, .int .i64, .int .i64, .int .i64, .int .i64, .int .i64, .int .i64, .int .i64, .sl 3, .int .i64, .int .i64, .int .i64, .sl 1, .sl 1], .agg [.int .i64, .int .i64, .int .i64, .int .u8, .int .i64, .int .i64, .int .i64, .int .i64]], none⟩,
    ⟨6, some 16, .move (.t 22), none⟩,
    ⟨7, some 23, .ext 16 0, none⟩,
    ⟨8, some 24, .ext 16 1, none⟩,
    ⟨9, some 8, .boxz 34 [] [.int .i64 0, .int .i64 0, .int .i64 0, .int .i64 0, .int .i64 0, .int .i64 0, .int .i64 0, .int .i64 0, .sl 3 0 0 0, .int .i64 0, .int .i64 0, .int .i64 0, .sl 1 0 0 0, .sl 1 0 0 0], none⟩,
    ⟨10, some 9, .boxz 35 [] [.int .i64 0, .int .i64 0, .int .i64 0, .int .u8 0, .int .i64 0, .int .i64 0, .int .i64 0, .int .i64 0], none⟩,
    ⟨11, none, .stL 8 34 (.t 23) 14, none⟩,
    ⟨12, none, .stL 9 35 (.t 24) 8, none⟩]) (.region [⟨0, some 25, .ldL 8 34 (.agg [.int .i64, .int .i64, .int .i64, .int .i64, .int .i64, .int .i64, .int .i64, .int .i64, .sl 3, .int .i64, .int .i64, .int .i64, .sl 1, .sl 1]), none⟩,
    ⟨1, some 26, .move (.t 6), none⟩,
    ⟨2, some 27, .ldL 9 35 (.agg [.int .i64, .int .i64, .int .i64, .int .u8, .int .i64, .int .i64, .int .i64, .int .i64]), none⟩,
    ⟨3, some 28, .bslice 1 8 [.int .i64 0, .int .i64 0, .int .i64 0, .int .u8 0, .int .i64 0, .int .i64 0, .int .i64 0, .int .i64 0] [(0, 8, .t 27)], none⟩,
    ⟨4, some 29, .app (.t 26) (.t 28) 8 64, none⟩,
    ⟨5, none, .stL 2 32 (.t 25) 14, none⟩,
    ⟨6, some 6, .move (.t 29), none⟩]))) (.region [⟨0, some 14, .move (.t 7), none⟩,
    ⟨1, some 15, .bin .add .i64 (.t 14) (.k (.c (.int .i64 1))), none⟩,
    ⟨2, some 7, .move (.t 15), none⟩])))
def hodmanref17_All.c20 : DCode := (.seq (.region [⟨0, some 30, .ldL 2 32 (.agg [.int .i64, .int .i64, .int .i64, .int .i64, .int .i64, .int .i64, .int .i64, .int .i64, .sl 3, .int .i64, .int .i64, .int .i64, .sl 1, .sl 1]), none⟩,
    ⟨1, some 31, .move (.t 6), none⟩,
    ⟨2, none, .stL 4 33 (.t 30) 14, none⟩,
    ⟨3, some 5, .move (.t 31), none⟩]) .ret)
def hodmanref17_All.d : DFn := { ntmps := 36, res := [.box 4 (some 14), .t 5], body := (.seq (.region [⟨0, some 2, .boxv 32 [] (.t 0) 14, none⟩,
    ⟨1, some 4, .boxz 33 [] [.int .i64 0, .int .i64 0, .int .i64 0, .int .i64 0, .int .i64 0, .int .i64 0, .int .i64 0, .int .i64 0, .sl 3 0 0 0, .int .i64 0, .int .i64 0, .int .i64 0, .sl 1 0 0 0, .sl 1 0 0 0], none⟩,
    ⟨2, some 5, .move (.k (.c (.sl 8 0 0 0))), none⟩]) (.seq (.region [⟨0, some 6, .move (.k (.c (.sl 8 0 0 0))), none⟩]) (.seq (.seq (.region [⟨0, some 7, .move (.k (.c (.int .i64 0))), none⟩]) (.block 0 (.loop [1, 2, 4, 6, 7, 32, 33] hodmanref17_All.c14))) hodmanref17_All.c20))) }
def hodmanref17_All.k20 (M : Mach) (C : Call) : Kont := execC M.j C (M.ag C) hodmanref17_All.c20 ({ exits := [], ret := retK hodmanref17_All.d } : Env) (retK hodmanref17_All.d)
def hodmanref17_All.e16 (M : Mach) (C : Call) : Env := { exits := (0, (hodmanref17_All.k20 M C)) :: (({ exits := [], ret := retK hodmanref17_All.d } : Env)).exits, ret := (({ exits := [], ret := retK hodmanref17_All.d } : Env)).ret }
def hodmanref17_All.L15 (M : Mach) (C : Call) (ops1i : Nat) (ops1o : Nat) (ops1n : Nat) (out6i : Nat) (out6o : Nat) (out6n : Nat) (i7 : Int) (m32_0 : Int) (m32_1 : Int) (m32_2 : Int) (m32_3 : Int) (m32_4 : Int) (m32_5 : Int) (m32_6 : Int) (m32_7 : Int) (m32_8i : Nat) (m32_8o : Nat) (m32_8n : Nat) (m32_9 : Int) (m32_10 : Int) (m32_11 : Int) (m32_12i : Nat) (m32_12o : Nat) (m32_12n : Nat) (m32_13i : Nat) (m32_13o : Nat) (m32_13n : Nat) (x33_0 : Int) (x33_1 : Int) (x33_2 : Int) (x33_3 : Int) (x33_4 : Int) (x33_5 : Int) (x33_6 : Int) (x33_7 : Int) (x33_8i : Nat) (x33_8o : Nat) (x33_8n : Nat) (x33_9 : Int) (x33_10 : Int) (x33_11 : Int) (x33_12i : Nat) (x33_12o : Nat) (x33_12n : Nat) (x33_13i : Nat) (x33_13o : Nat) (x33_13n : Nat) (G : GH) : Option Res := M.ag C [1, 2, 4, 6, 7, 32, 33] hodmanref17_All.c14 (hodmanref17_All.e16 M C) (hodmanref17_All.k20 M C) [.und, .v (.c (.sl 6 ops1i ops1o ops1n)), .ref 32 0, .und, .ref 33 0, .und, .v (.c (.sl 8 out6i out6o out6n)), .v (.c (.int .i64 i7)), .und, .und, .und, .und, .und, .und, .und, .und, .und, .und, .und, .und, .und, .und, .und, .und, .und, .und, .und, .und, .und, .und, .und, .und, .box [.int .i64 m32_0, .int .i64 m32_1, .int .i64 m32_2, .int .i64 m32_3, .int .i64 m32_4, .int .i64 m32_5, .int .i64 m32_6, .int .i64 m32_7, .sl 3 m32_8i m32_8o m32_8n, .int .i64 m32_9, .int .i64 m32_10, .int .i64 m32_11, .sl 1 m32_12i m32_12o m32_12n, .sl 1 m32_13i m32_13o m32_13n], .box [.int .i64 x33_0, .int .i64 x33_1, .int .i64 x33_2, .int .i64 x33_3, .int .i64 x33_4, .int .i64 x33_5, .int .i64 x33_6, .int .i64 x33_7, .sl 3 x33_8i x33_8o x33_8n, .int .i64 x33_9, .int .i64 x33_10, .int .i64 x33_11, .sl 1 x33_12i x33_12o x33_12n, .sl 1 x33_13i x33_13o x33_13n], .und, .und] G
theorem hodmanref17_All.L15_eq (M : Mach) (C : Call) (ops1i : Nat) (ops1o : Nat) (ops1n : Nat) (out6i : Nat) (out6o : Nat) (out6n : Nat) (i7 : Int) (m32_0 : Int) (m32_1 : Int) (m32_2 : Int) (m32_3 : Int) (m32_4 : Int) (m32_5 : Int) (m32_6 : Int) (m32_7 : Int) (m32_8i : Nat) (m32_8o : Nat) (m32_8n : Nat) (m32_9 : Int) (m32_10 : Int) (m32_11 : Int) (m32_12i : Nat) (m32_12o : Nat) (m32_12n : Nat) (m32_13i : Nat) (m32_13o : Nat) (m32_13n : Nat) (x33_0 : Int) (x33_1 : Int) (x33_2 : Int) (x33_3 : Int) (x33_4 : Int) (x33_5 : Int) (x33_6 : Int) (x33_7 : Int) (x33_8i : Nat) (x33_8o : Nat) (x33_8n : Nat) (x33_9 : Int) (x33_10 : Int) (x33_11 : Int) (x33_12i : Nat) (x33_12o : Nat) (x33_12n : Nat) (x33_13i : Nat) (x33_13o : Nat) (x33_13n : Nat) (G : GH) : hodmanref17_All.L15 M C ops1i ops1o ops1n out6i out6o out6n i7 m32_0 m32_1 m32_2 m32_3 m32_4 m32_5 m32_6 m32_7 m32_8i m32_8o m32_8n m32_9 m32_10 m32_11 m32_12i m32_12o m32_12n m32_13i m32_13o m32_13n x33_0 x33_1 x33_2 x33_3 x33_4 x33_5 x33_6 x33_7 x33_8i x33_8o x33_8n x33_9 x33_10 x33_11 x33_12i x33_12o x33_12n x33_13i x33_13o x33_13n G = (bif decide (i7 < ((ops1n : Nat) : Int)) then guardK (decide (0 ≤ i7 ∧ i7 < ((ops1n : Nat) : Int))) (((G.ld ops1i ((ops1o + Int.toNat i7 * 6) + 0)).bind (Cell.asI .i64)).bind fun qx_1 => ((G.ld ops1i ((ops1o + Int.toNat i7 * 6) + 1)).bind (Cell.asI .i64)).bind fun qx_2 => ((G.ld ops1i ((ops1o + Int.toNat i7 * 6) + 2)).bind (Cell.asI .i64)).bind fun qx_3 => ((G.ld ops1i ((ops1o + Int.toNat i7 * 6) + 3)).bind (Cell.asI .i64)).bind fun qx_4 => ((G.ld ops1i ((ops1o + Int.toNat i7 * 6) + 4)).bind (Cell.asI .i64)).bind fun qx_5 => ((G.ld ops1i ((ops1o + Int.toNat i7 * 6) + 5)).bind (Cell.asI .u8)).bind fun qx_6 => (C hodmanref17_Do.id [.agg [.int .i64 m32_0, .int .i64 m32_1, .int .i64 m32_2, .int .i64 m32_3, .int .i64 m32_4, .int .i64 m32_5, .int .i64 m32_6, .int .i64 m32_7, .sl 3 m32_8i m32_8o m32_8n, .int .i64 m32_9, .int .i64 m32_10, .int .i64 m32_11, .sl 1 m32_12i m32_12o m32_12n, .sl 1 m32_13i m32_13o m32_13n], .agg [.int .i64 qx_1, .int .i64 qx_2, .int .i64 qx_3, .int .i64 qx_4, .int .i64 qx_5, .int .u8 qx_6]] G).bind fun qr_7 => ((qr_7.1[0]?).bind V1.a?).bind fun qcs_8 => if qcs_8.length = 14 then (((qcs_8[0]?).bind (Cell.asI .i64)).bind fun qx_9 => ((qcs_8[1]?).bind (Cell.asI .i64)).bind fun qx_10 => ((qcs_8[2]?).bind (Cell.asI .i64)).bind fun qx_11 => ((qcs_8[3]?).bind (Cell.asI .i64)).bind fun qx_12 => ((qcs_8[4]?).bind (Cell.asI .i64)).bind fun qx_13 => ((qcs_8[5]?).bind (Cell.asI .i64)).bind fun qx_14 => ((qcs_8[6]?).bind (Cell.asI .i64)).bind fun qx_15 => ((qcs_8[7]?).bind (Cell.asI .i64)).bind fun qx_16 => ((qcs_8[8]?).bind (Cell.asS 3)).bind fun qs_17 => ((qcs_8[9]?).bind (Cell.asI .i64)).bind fun qx_18 => ((qcs_8[10]?).bind (Cell.asI .i64)).bind fun qx_19 => ((qcs_8[11]?).bind (Cell.asI .i64)).bind fun qx_20 => ((qcs_8[12]?).bind (Cell.asS 1)).bind fun qs_21 => ((qcs_8[13]?).bind (Cell.asS 1)).bind fun qs_22 => ((qr_7.1[1]?).bind V1.a?).bind fun qcs_23 => if qcs_23.length = 8 then (((qcs_23[0]?).bind (Cell.asI .i64)).bind fun qx_24 => ((qcs_23[1]?).bind (Cell.asI .i64)).bind fun qx_25 => ((qcs_23[2]?).bind (Cell.asI .i64)).bind fun qx_26 => ((qcs_23[3]?).bind (Cell.asI .u8)).bind fun qx_27 => ((qcs_23[4]?).bind (Cell.asI .i64)).bind fun qx_28 => ((qcs_23[5]?).bind (Cell.asI .i64)).bind fun qx_29 => ((qcs_23[6]?).bind (Cell.asI .i64)).bind fun qx_30 => ((qcs_23[7]?).bind (Cell.asI .i64)).bind fun qx_31 => let qG_32 := qr_7.2.alloc (.row [.int .i64 qx_24, .int .i64 qx_25, .int .i64 qx_26, .int .u8 qx_27, .int .i64 qx_28, .int .i64 qx_29, .int .i64 qx_30, .int .i64 qx_31] false); (if 1 = 0 then some [] else qG_32.lds qr_7.2.next 0 (1 * 8)).bind fun qnew_33 => guardK (decide (out6n + 1 ≤ most)) ((qG_32.app out6i out6o out6n 8 1 qnew_33).bind fun qp_34 => hodmanref17_All.L15 M C ops1i ops1o ops1n qp_34.1 qp_34.2.1 (out6n + 1) (IntKind.i64.wrap (i7 + 1)) qx_9 qx_10 qx_11 qx_12 qx_13 qx_14 qx_15 qx_16 qs_17.1 qs_17.2.1 qs_17.2.2 qx_18 qx_19 qx_20 qs_21.1 qs_21.2.1 qs_21.2.2 qs_22.1 qs_22.2.1 qs_22.2.2 x33_0 x33_1 x33_2 x33_3 x33_4 x33_5 x33_6 x33_7 x33_8i x33_8o x33_8n x33_9 x33_10 x33_11 x33_12i x33_12o x33_12n x33_13i x33_13o x33_13n qp_34.2.2)) else none) else none) else some ([.agg [.int .i64 m32_0, .int .i64 m32_1, .int .i64 m32_2, .int .i64 m32_3, .int .i64 m32_4, .int .i64 m32_5, .int .i64 m32_6, .int .i64 m32_7, .sl 3 m32_8i m32_8o m32_8n, .int .i64 m32_9, .int .i64 m32_10, .int .i64 m32_11, .sl 1 m32_12i m32_12o m32_12n, .sl 1 m32_13i m32_13o m32_13n], .c (.sl 8 out6i out6o out6n)], G)) := (M.hs _ _ _ _ _ _ _).trans (by kernel_rfl)
def hodmanref17_All.f (M : Mach) (C : Call) (m0_0 : Int) (m0_1 : Int) (m0_2 : Int) (m0_3 : Int) (m0_4 : Int) (m0_5 : Int) (m0_6 : Int) (m0_7 : Int) (m0_8i : Nat) (m0_8o : Nat) (m0_8n : Nat) (m0_9 : Int) (m0_10 : Int) (m0_11 : Int) (m0_12i : Nat) (m0_12o : Nat) (m0_12n : Nat) (m0_13i : Nat) (m0_13o : Nat) (m0_13n : Nat) (ops1i : Nat) (ops1o : Nat) (ops1n : Nat) (G : GH) : Option Res := hodmanref17_All.L15 M C ops1i ops1o ops1n 0 0 0 0 m0_0 m0_1 m0_2 m0_3 m0_4 m0_5 m0_6 m0_7 m0_8i m0_8o m0_8n m0_9 m0_10 m0_11 m0_12i m0_12o m0_12n m0_13i m0_13o m0_13n 0 0 0 0 0 0 0 0 0 0 0 0 0 0 0 0 0 0 0 0 G
theorem hodmanref17_All.eq (M : Mach) (C : Call) (m0_0 : Int) (m0_1 : Int) (m0_2 : Int) (m0_3 : Int) (m0_4 : Int) (m0_5 : Int) (m0_6 : Int) (m0_7 : Int) (m0_8i : Nat) (m0_8o : Nat) (m0_8n : Nat) (m0_9 : Int) (m0_10 : Int) (m0_11 : Int) (m0_12i : Nat) (m0_12o : Nat) (m0_12n : Nat) (m0_13i : Nat) (m0_13o : Nat) (m0_13n : Nat) (ops1i : Nat) (ops1o : Nat) (ops1n : Nat) (G : GH) : runF M C hodmanref17_All.d [.agg [.int .i64 m0_0, .int .i64 m0_1, .int .i64 m0_2, .int .i64 m0_3, .int .i64 m0_4, .int .i64 m0_5, .int .i64 m0_6, .int .i64 m0_7, .sl 3 m0_8i m0_8o m0_8n, .int .i64 m0_9, .int .i64 m0_10, .int .i64 m0_11, .sl 1 m0_12i m0_12o m0_12n, .sl 1 m0_13i m0_13o m0_13n], .c (.sl 6 ops1i ops1o ops1n)] G = hodmanref17_All.f M C m0_0 m0_1 m0_2 m0_3 m0_4 m0_5 m0_6 m0_7 m0_8i m0_8o m0_8n m0_9 m0_10 m0_11 m0_12i m0_12o m0_12n m0_13i m0_13o m0_13n ops1i ops1o ops1n G := by kernel_rfl

/- 63 hodman/hodmanref17.Lowest -/
def hodmanref17_Lowest.c12 : DCode := (.cond (.t 26) .skip (.exit 2))
def hodmanref17_Lowest.c17 : DCode := (.seq (.block 3 (.region [⟨0, some 29, .move (.t 8), none⟩,
    ⟨1, some 30, .move (.t 2), none⟩,
    ⟨2, some 31, .build [.int .i64 0, .int .i64 0] [(0, 1, .t 29), (1, 1, .t 30)], none⟩,
    ⟨3, some 32, .move (.t 1), none⟩,
    ⟨4, some 33, .move (.t 10), none⟩,
    ⟨5, some 34, .iaddr (.t 32) (.t 33) 3, none⟩,
    ⟨6, some 35, .faddr 34 0, none⟩,
    ⟨7, some 36, .ldG 35 (.c (.int .i64)), none⟩,
    ⟨8, some 37, .move (.t 1), none⟩,
    ⟨9, some 38, .move (.t 10), none⟩,
    ⟨10, some 39, .iaddr (.t 37) (.t 38) 3, none⟩,
    ⟨11, some 40, .faddr 39 1, none⟩,
    ⟨12, some 41, .ldG 40 (.c (.int .i64)), none⟩,
    ⟨13, some 42, .build [.int .i64 0, .int .i64 0] [(0, 1, .t 36), (1, 1, .t 41)], none⟩,
    ⟨14, some 43, .call 52 [.t 31, .t 42] [.c (.bool)], none⟩,
    ⟨15, some 44, .not (.t 43), none⟩,
    ⟨16, some 9, .move (.t 44), none⟩])) (.region [⟨0, some 27, .move (.t 10), none⟩,
    ⟨1, some 28, .bin .add .i64 (.t 27) (.k (.c (.int .i64 1))), none⟩,
    ⟨2, some 10, .move (.t 28), none⟩]))
def hodmanref17_Lowest.c18 : DCode := (.seq (.seq (.region [⟨0, some 20, .move (.t 10), none⟩,
    ⟨1, some 21, .move (.t 1), none⟩,
    ⟨2, some 22, .len (.t 21), none⟩,
    ⟨3, some 23, .cmp .lss .i64 (.t 20) (.t 22), none⟩,
    ⟨4, some 24, .move (.t 23), none⟩,
    ⟨5, some 25, .move (.t 9), some (24, true)⟩,
    ⟨6, some 26, .pick (.t 24) (.t 25) (.k (.c (.bool false))), none⟩]) (.cut [1, 2, 3, 8, 9, 10, 26, 47] hodmanref17_Lowest.c12)) hodmanref17_Lowest.c17)
def hodmanref17_Lowest.c19 : DCode := (.loop [1, 2, 3, 8, 9, 10, 47] hodmanref17_Lowest.c18)
def hodmanref17_Lowest.c28 : DCode := (.seq (.region [⟨0, some 45, .move (.t 9), none⟩]) (.cond (.t 45) (.seq (.region [⟨0, some 46, .move (.t 8), none⟩,
    ⟨1, some 6, .move (.t 46), none⟩,
    ⟨2, some 7, .move (.k (.c (.bool true))), none⟩]) .ret) .skip))
def hodmanref17_Lowest.c32 : DCode := (.region [⟨0, some 17, .move (.t 8), none⟩,
    ⟨1, some 18, .move (.t 2), none⟩,
    ⟨2, some 19, .bin .add .i64 (.t 17) (.t 18), none⟩,
    ⟨3, some 8, .move (.t 19), none⟩])
def hodmanref17_Lowest.c34 : DCode := (.seq (.seq (.region [⟨0, some 11, .move (.t 8), none⟩,
    ⟨1, some 12, .move (.t 2), none⟩,
    ⟨2, some 13, .bin .add .i64 (.t 11) (.t 12), none⟩,
    ⟨3, some 14, .faddr 3 6, none⟩,
    ⟨4, some 15, .ldL 14 47 (.c (.int .i64)), none⟩,
    ⟨5, some 16, .cmp .leq .i64 (.t 13) (.t 15), none⟩]) (.cond (.t 16) .skip (.exit 0))) (.seq (.block 1 (.seq (.region [⟨0, some 9, .move (.k (.c (.bool true))), none⟩]) (.seq (.seq (.region [⟨0, some 10, .move (.k (.c (.int .i64 0))), none⟩]) (.block 2 hodmanref17_Lowest.c19)) hodmanref17_Lowest.c28))) hodmanref17_Lowest.c32))
def hodmanref17_Lowest.c35 : DCode := (.loop [1, 2, 3, 8, 47] hodmanref17_Lowest.c34)
def hodmanref17_Lowest.c40 : DCode := (.seq (.region [⟨0, some 6, .move (.k (.c (.int .i64 0))), none⟩,
    ⟨1, some 7, .move (.k (.c (.bool false))), none⟩]) .ret)
def hodmanref17_Lowest.d : DFn := { ntmps := 48, res := [.t 6, .t 7], body := (.seq (.region [⟨0, some 3, .boxv 47 [14] (.t 0) 8, none⟩,
    ⟨1, some 6, .move (.k (.c (.int .i64 0))), none⟩,
    ⟨2, some 7, .move (.k (.c (.bool false))), none⟩]) (.seq (.seq (.region [⟨0, some 8, .move (.k (.c (.int .i64 0))), none⟩]) (.block 0 hodmanref17_Lowest.c35)) hodmanref17_Lowest.c40)) }
def hodmanref17_Lowest.k40 (M : Mach) (C : Call) : Kont := execC M.j C (M.ag C) hodmanref17_Lowest.c40 ({ exits := [], ret := retK hodmanref17_Lowest.d } : Env) (retK hodmanref17_Lowest.d)
def hodmanref17_Lowest.e36 (M : Mach) (C : Call) : Env := { exits := (0, (hodmanref17_Lowest.k40 M C)) :: (({ exits := [], ret := retK hodmanref17_Lowest.d } : Env)).exits, ret := (({ exits := [], ret := retK hodmanref17_Lowest.d } : Env)).ret }
def hodmanref17_Lowest.L35 (M : Mach) (C : Call) (l1i : Nat) (l1o : Nat) (l1n : Nat) (charge2 : Int) (at8 : Int) (c47_0 : Int) (c47_1 : Int) (c47_2 : Int) (c47_3 : Int) (c47_4 : Int) (c47_5 : Int) (c47_6 : Int) (c47_7 : Int) (G : GH) : Option Res := M.ag C [1, 2, 3, 8, 47] hodmanref17_Lowest.c34 (hodmanref17_Lowest.e36 M C) (hodmanref17_Lowest.k40 M C) [.und, .v (.c (.sl 3 l1i l1o l1n)), .v (.c (.int .i64 charge2)), .ref 47 0, .und, .und, .und, .und, .v (.c (.int .i64 at8)), .und, .und, .und, .und, .und, .und, .und, .und, .und, .und, .und, .und, .und, .und, .und, .und, .und, .und, .und, .und, .und, .und, .und, .und, .und, .und, .und, .und, .und, .und, .und, .und, .und, .und, .und, .und, .und, .und, .box [.int .i64 c47_0, .int .i64 c47_1, .int .i64 c47_2, .int .i64 c47_3, .int .i64 c47_4, .int .i64 c47_5, .int .i64 c47_6, .int .i64 c47_7]] G
def hodmanref17_Lowest.k35 (M : Mach) (C : Call) : Kont := fun tm G => M.ag C [1, 2, 3, 8, 47] hodmanref17_Lowest.c34 (hodmanref17_Lowest.e36 M C) (hodmanref17_Lowest.k40 M C) (restr [1, 2, 3, 8, 47] 0 tm) G
def hodmanref17_Lowest.k32 (M : Mach) (C : Call) : Kont := execC M.j C (M.ag C) hodmanref17_Lowest.c32 (hodmanref17_Lowest.e36 M C) (hodmanref17_Lowest.k35 M C)
def hodmanref17_Lowest.e31 (M : Mach) (C : Call) : Env := { exits := (1, (hodmanref17_Lowest.k32 M C)) :: ((hodmanref17_Lowest.e36 M C)).exits, ret := ((hodmanref17_Lowest.e36 M C)).ret }
def hodmanref17_Lowest.k28 (M : Mach) (C : Call) : Kont := execC M.j C (M.ag C) hodmanref17_Lowest.c28 (hodmanref17_Lowest.e31 M C) (hodmanref17_Lowest.k32 M C)
def hodmanref17_Lowest.e20 (M : Mach) (C : Call) : Env := { exits := (2, (hodmanref17_Lowest.k28 M C)) :: ((hodmanref17_Lowest.e31 M C)).exits, ret := ((hodmanref17_Lowest.e31 M C)).ret }
def hodmanref17_Lowest.L19 (M : Mach) (C : Call) (l1i : Nat) (l1o : Nat) (l1n : Nat) (charge2 : Int) (at8 : Int) (free9 : Bool) (i10 : Int) (c47_0 : Int) (c47_1 : Int) (c47_2 : Int) (c47_3 : Int) (c47_4 : Int) (c47_5 : Int) (c47_6 : Int) (c47_7 : Int) (G : GH) : Option Res := M.ag C [1, 2, 3, 8, 9, 10, 47] hodmanref17_Lowest.c18 (hodmanref17_Lowest.e20 M C) (hodmanref17_Lowest.k28 M C) [.und, .v (.c (.sl 3 l1i l1o l1n)), .v (.c (.int .i64 charge2)), .ref 47 0, .und, .und, .und, .und, .v (.c (.int .i64 at8)), .v (.c (.bool free9)), .v (.c (.int .i64 i10)), .und, .und, .und, .und, .und, .und, .und, .und, .und, .und, .und, .und, .und, .und, .und, .und, .und, .und, .und, .und, .und, .und, .und, .und, .und, .und, .und, .und, .und, .und, .und, .und, .und, .und, .und, .und, .box [.int .i64 c47_0, .int .i64 c47_1, .int .i64 c47_2, .int .i64 c47_3, .int .i64 c47_4, .int .i64 c47_5, .int .i64 c47_6, .int .i64 c47_7]] G
def hodmanref17_Lowest.k19 (M : Mach) (C : Call) : Kont := fun tm G => M.ag C [1, 2, 3, 8, 9, 10, 47] hodmanref17_Lowest.c18 (hodmanref17_Lowest.e20 M C) (hodmanref17_Lowest.k28 M C) (restr [1, 2, 3, 8, 9, 10, 47] 0 tm) G
def hodmanref17_Lowest.k17 (M : Mach) (C : Call) : Kont := execC M.j C (M.ag C) hodmanref17_Lowest.c17 (hodmanref17_Lowest.e20 M C) (hodmanref17_Lowest.k19 M C)
def hodmanref17_Lowest.J12 (M : Mach) (C : Call) (l1i : Nat) (l1o : Nat) (l1n : Nat) (charge2 : Int) (at8 : Int) (free9 : Bool) (i10 : Int) (t26 : Bool) (c47_0 : Int) (c47_1 : Int) (c47_2 : Int) (c47_3 : Int) (c47_4 : Int) (c47_5 : Int) (c47_6 : Int) (c47_7 : Int) (G : GH) : Option Res := M.j (execC M.j C (M.ag C) hodmanref17_Lowest.c12 (hodmanref17_Lowest.e20 M C) (hodmanref17_Lowest.k17 M C)) [.und, .v (.c (.sl 3 l1i l1o l1n)), .v (.c (.int .i64 charge2)), .ref 47 0, .und, .und, .und, .und, .v (.c (.int .i64 at8)), .v (.c (.bool free9)), .v (.c (.int .i64 i10)), .und, .und, .und, .und, .und, .und, .und, .und, .und, .und, .und, .und, .und, .und, .und, .v (.c (.bool t26)), .und, .und, .und, .und, .und, .und, .und, .und, .und, .und, .und, .und, .und, .und, .und, .und, .und, .und, .und, .und, .box [.int .i64 c47_0, .int .i64 c47_1, .int .i64 c47_2, .int .i64 c47_3, .int .i64 c47_4, .int .i64 c47_5, .int .i64 c47_6, .int .i64 c47_7]] G
theorem hodmanref17_Lowest.L35_eq (M : Mach) (C : Call) (l1i : Nat) (l1o : Nat) (l1n : Nat) (charge2 : Int) (at8 : Int) (c47_0 : Int) (c47_1 : Int) (c47_2 : Int) (c47_3 : Int) (c47_4 : Int) (c47_5 : Int) (c47_6 : Int) (c47_7 : Int) (G : GH) : hodmanref17_Lowest.L35 M C l1i l1o l1n charge2 at8 c47_0 c47_1 c47_2 c47_3 c47_4 c47_5 c47_6 c47_7 G = (bif decide (IntKind.i64.wrap (at8 + charge2) ≤ c47_6) then hodmanref17_Lowest.L19 M C l1i l1o l1n charge2 at8 true 0 c47_0 c47_1 c47_2 c47_3 c47_4 c47_5 c47_6 c47_7 G else some ([.c (.int .i64 0), .c (.bool false)], G)) := (M.hs _ _ _ _ _ _ _).trans (by kernel_rfl)
theorem hodmanref17_Lowest.L19_eq (M : Mach) (C : Call) (l1i : Nat) (l1o : Nat) (l1n : Nat) (charge2 : Int) (at8 : Int) (free9 : Bool) (i10 : Int) (c47_0 : Int) (c47_1 : Int) (c47_2 : Int) (c47_3 : Int) (c47_4 : Int) (c47_5 : Int) (c47_6 : Int) (c47_7 : Int) (G : GH) : hodmanref17_Lowest.L19 M C l1i l1o l1n charge2 at8 free9 i10 c47_0 c47_1 c47_2 c47_3 c47_4 c47_5 c47_6 c47_7 G = (bif decide (i10 < ((l1n : Nat) : Int)) then hodmanref17_Lowest.J12 M C l1i l1o l1n charge2 at8 free9 i10 free9 c47_0 c47_1 c47_2 c47_3 c47_4 c47_5 c47_6 c47_7 G else hodmanref17_Lowest.J12 M C l1i l1o l1n charge2 at8 free9 i10 false c47_0 c47_1 c47_2 c47_3 c47_4 c47_5 c47_6 c47_7 G) := (M.hs _ _ _ _ _ _ _).trans (by kernel_rfl)
theorem hodmanref17_Lowest.J12_eq (M : Mach) (C : Call) (l1i : Nat) (l1o : Nat) (l1n : Nat) (charge2 : Int) (at8 : Int) (free9 : Bool) (i10 : Int) (t26 : Bool) (c47_0 : Int) (c47_1 : Int) (c47_2 : Int) (c47_3 : Int) (c47_4 : Int) (c47_5 : Int) (c47_6 : Int) (c47_7 : Int) (G : GH) : hodmanref17_Lowest.J12 M C l1i l1o l1n charge2 at8 free9 i10 t26 c47_0 c47_1 c47_2 c47_3 c47_4 c47_5 c47_6 c47_7 G = (bif t26 then guardK (decide (0 ≤ i10 ∧ i10 < ((l1n : Nat) : Int))) (((G.ld l1i ((l1o + Int.toNat i10 * 3) + 0)).bind (Cell.asI .i64)).bind fun qx_1 => guardK (decide (0 ≤ i10 ∧ i10 < ((l1n : Nat) : Int))) (((G.ld l1i ((l1o + Int.toNat i10 * 3) + 1)).bind (Cell.asI .i64)).bind fun qx_2 => (C hodmanref8_Over.id [.agg [.int .i64 at8, .int .i64 charge2], .agg [.int .i64 qx_1, .int .i64 qx_2]] G).bind fun qr_3 => (((qr_3.1[0]?).bind V1.c?).bind Cell.asB).bind fun qb_4 => hodmanref17_Lowest.L19 M C l1i l1o l1n charge2 at8 (!qb_4) (IntKind.i64.wrap (i10 + 1)) c47_0 c47_1 c47_2 c47_3 c47_4 c47_5 c47_6 c47_7 qr_3.2)) else bif free9 then some ([.c (.int .i64 at8), .c (.bool true)], G) else hodmanref17_Lowest.L35 M C l1i l1o l1n charge2 (IntKind.i64.wrap (at8 + charge2)) c47_0 c47_1 c47_2 c47_3 c47_4 c47_5 c47_6 c47_7 G) := (M.hj _ _ _).trans (by kernel_rfl)
def hodmanref17_Lowest.f (M : Mach) (C : Call) (c0_0 : Int) (c0_1 : Int) (c0_2 : Int) (c0_3 : Int) (c0_4 : Int) (c0_5 : Int) (c0_6 : Int) (c0_7 : Int) (l1i : Nat) (l1o : Nat) (l1n : Nat) (charge2 : Int) (G : GH) : Option Res := hodmanref17_Lowest.L35 M C l1i l1o l1n charge2 0 c0_0 c0_1 c0_2 c0_3 c0_4 c0_5 c0_6 c0_7 G
theorem hodmanref17_Lowest.eq (M : Mach) (C : Call) (c0_0 : Int) (c0_1 : Int) (c0_2 : Int) (c0_3 : Int) (c0_4 : Int) (c0_5 : Int) (c0_6 : Int) (c0_7 : Int) (l1i : Nat) (l1o : Nat) (l1n : Nat) (charge2 : Int) (G : GH) : runF M C hodmanref17_Lowest.d [.agg [.int .i64 c0_0, .int .i64 c0_1, .int .i64 c0_2, .int .i64 c0_3, .int .i64 c0_4, .int .i64 c0_5, .int .i64 c0_6, .int .i64 c0_7], .c (.sl 3 l1i l1o l1n), .c (.int .i64 charge2)] G = hodmanref17_Lowest.f M C c0_0 c0_1 c0_2 c0_3 c0_4 c0_5 c0_6 c0_7 l1i l1o l1n charge2 G := by kernel_rfl

/- 32 hodman/hodmanref8.Trim -/
def hodmanref8_Trim.c13 : DCode := (.cond (.t 47) (.region [⟨0, some 48, .move (.t 7), none⟩,
    ⟨1, some 49, .bin .add .i64 (.t 48) (.k (.c (.int .i64 1))), none⟩,
    ⟨2, some 7, .move (.t 49), none⟩]) .skip)
def hodmanref8_Trim.c14 : DCode := (.seq (.region [⟨0, some 37, .move (.t 0), none⟩,
    ⟨1, some 38, .move (.t 8), none⟩,
    ⟨2, some 39, .iaddr (.t 37) (.t 38) 1, none⟩,
    ⟨3, some 40, .ldG 39 (.c (.bool)), none⟩,
    ⟨4, some 41, .move (.t 40), none⟩,
    ⟨5, some 42, .move (.t 6), some (41, true)⟩,
    ⟨6, some 43, .move (.t 8), some (41, true)⟩,
    ⟨7, some 44, .iaddr (.t 42) (.t 43) 1, some (41, true)⟩,
    ⟨8, some 45, .ldG 44 (.c (.bool)), some (41, true)⟩,
    ⟨9, some 46, .not (.t 45), some (41, true)⟩,
    ⟨10, some 47, .pick (.t 41) (.t 46) (.k (.c (.bool false))), none⟩]) (.cut [0, 1, 6, 7, 8, 47] hodmanref8_Trim.c13))
def hodmanref8_Trim.c17 : DCode := (.region [⟨0, some 16, .move (.t 8), none⟩,
    ⟨1, some 17, .bin .add .i64 (.t 16) (.k (.c (.int .i64 1))), none⟩,
    ⟨2, some 8, .move (.t 17), none⟩])
def hodmanref8_Trim.c19 : DCode := (.seq (.seq (.region [⟨0, some 12, .move (.t 8), none⟩,
    ⟨1, some 13, .move (.t 0), none⟩,
    ⟨2, some 14, .len (.t 13), none⟩,
    ⟨3, some 15, .cmp .lss .i64 (.t 12) (.t 14), none⟩]) (.cond (.t 15) .skip (.exit 0))) (.seq (.block 1 (.seq (.region [⟨0, some 18, .move (.t 6), none⟩,
    ⟨1, some 19, .move (.t 8), none⟩,
    ⟨2, some 20, .move (.t 0), none⟩,
    ⟨3, some 21, .move (.t 8), none⟩,
    ⟨4, some 22, .iaddr (.t 20) (.t 21) 1, none⟩,
    ⟨5, some 23, .ldG 22 (.c (.bool)), none⟩,
    ⟨6, some 24, .move (.t 23), none⟩,
    ⟨7, some 25, .move (.t 8), some (24, true)⟩,
    ⟨8, some 26, .move (.t 1), some (24, true)⟩,
    ⟨9, some 27, .len (.t 26), some (24, true)⟩,
    ⟨10, some 28, .cmp .lss .i64 (.t 25) (.t 27), some (24, true)⟩,
    ⟨11, some 29, .pick (.t 24) (.t 28) (.k (.c (.bool false))), none⟩,
    ⟨12, some 30, .move (.t 29), none⟩,
    ⟨13, some 31, .move (.t 1), some (30, true)⟩,
    ⟨14, some 32, .move (.t 8), some (30, true)⟩,
    ⟨15, some 33, .iaddr (.t 31) (.t 32) 1, some (30, true)⟩,
    ⟨16, some 34, .ldG 33 (.c (.bool)), some (30, true)⟩,
    ⟨17, some 35, .pick (.t 30) (.t 34) (.k (.c (.bool false))), none⟩,
    ⟨18, some 36, .iaddr (.t 18) (.t 19) 1, none⟩,
    ⟨19, none, .stG 36 (.t 35) 1, none⟩]) (.cut [0, 1, 6, 7, 8] hodmanref8_Trim.c14))) (.cut [0, 1, 6, 7, 8] hodmanref8_Trim.c17)))
def hodmanref8_Trim.c20 : DCode := (.loop [0, 1, 6, 7, 8] hodmanref8_Trim.c19)
def hodmanref8_Trim.c25 : DCode := (.seq (.region [⟨0, some 50, .move (.t 6), none⟩,
    ⟨1, some 51, .move (.t 7), none⟩,
    ⟨2, some 4, .move (.t 50), none⟩,
    ⟨3, some 5, .move (.t 51), none⟩]) .ret)
def hodmanref8_Trim.d : DFn := { ntmps := 52, res := [.t 4, .t 5], body := (.seq (.region [⟨0, some 4, .move (.k (.c (.sl 1 0 0 0))), none⟩,
    ⟨1, some 5, .move (.k (.c (.int .i64 0))), none⟩]) (.seq (.region [⟨0, some 9, .move (.t 0), none⟩,
    ⟨1, some 10, .len (.t 9), none⟩,
    ⟨2, some 11, .mkslice (.t 10) 1 1 [.bool false], none⟩,
    ⟨3, some 6, .move (.t 11), none⟩]) (.seq (.region [⟨0, some 7, .move (.k (.c (.int .i64 0))), none⟩]) (.seq (.seq (.region [⟨0, some 8, .move (.k (.c (.int .i64 0))), none⟩]) (.block 0 hodmanref8_Trim.c20)) hodmanref8_Trim.c25)))) }
def hodmanref8_Trim.k25 (M : Mach) (C : Call) : Kont := execC M.j C (M.ag C) hodmanref8_Trim.c25 ({ exits := [], ret := retK hodmanref8_Trim.d } : Env) (retK hodmanref8_Trim.d)
def hodmanref8_Trim.e21 (M : Mach) (C : Call) : Env := { exits := (0, (hodmanref8_Trim.k25 M C)) :: (({ exits := [], ret := retK hodmanref8_Trim.d } : Env)).exits, ret := (({ exits := [], ret := retK hodmanref8_Trim.d } : Env)).ret }
def hodmanref8_Trim.L20 (M : Mach) (C : Call) (on0i : Nat) (on0o : Nat) (on0n : Nat) (met1i : Nat) (met1o : Nat) (met1n : Nat) (out6i : Nat) (out6o : Nat) (out6n : Nat) (gone7 : Int) (i8 : Int) (G : GH) : Option Res := M.ag C [0, 1, 6, 7, 8] hodmanref8_Trim.c19 (hodmanref8_Trim.e21 M C) (hodmanref8_Trim.k25 M C) [.v (.c (.sl 1 on0i on0o on0n)), .v (.c (.sl 1 met1i met1o met1n)), .und, .und, .und, .und, .v (.c (.sl 1 out6i out6o out6n)), .v (.c (.int .i64 gone7)), .v (.c (.int .i64 i8)), .und, .und, .und, .und, .und, .und, .und, .und, .und, .und, .und, .und, .und, .und, .und, .und, .und, .und, .und, .und, .und, .und, .und, .und, .und, .und, .und, .und, .und, .und, .und, .und, .und, .und, .und, .und, .und, .und, .und, .und, .und, .und, .und] G
def hodmanref8_Trim.k20 (M : Mach) (C : Call) : Kont := fun tm G => M.ag C [0, 1, 6, 7, 8] hodmanref8_Trim.c19 (hodmanref8_Trim.e21 M C) (hodmanref8_Trim.k25 M C) (restr [0, 1, 6, 7, 8] 0 tm) G
def hodmanref8_Trim.k17 (M : Mach) (C : Call) : Kont := execC M.j C (M.ag C) (.cut [0, 1, 6, 7, 8] hodmanref8_Trim.c17) (hodmanref8_Trim.e21 M C) (hodmanref8_Trim.k20 M C)
def hodmanref8_Trim.e16 (M : Mach) (C : Call) : Env := { exits := (1, (hodmanref8_Trim.k17 M C)) :: ((hodmanref8_Trim.e21 M C)).exits, ret := ((hodmanref8_Trim.e21 M C)).ret }
def hodmanref8_Trim.J14 (M : Mach) (C : Call) (on0i : Nat) (on0o : Nat) (on0n : Nat) (met1i : Nat) (met1o : Nat) (met1n : Nat) (out6i : Nat) (out6o : Nat) (out6n : Nat) (gone7 : Int) (i8 : Int) (G : GH) : Option Res := M.j (execC M.j C (M.ag C) hodmanref8_Trim.c14 (hodmanref8_Trim.e16 M C) (hodmanref8_Trim.k17 M C)) [.v (.c (.sl 1 on0i on0o on0n)), .v (.c (.sl 1 met1i met1o met1n)), .und, .und, .und, .und, .v (.c (.sl 1 out6i out6o out6n)), .v (.c (.int .i64 gone7)), .v (.c (.int .i64 i8)), .und, .und, .und, .und, .und, .und, .und, .und, .und, .und, .und, .und, .und, .und, .und, .und, .und, .und, .und, .und, .und, .und, .und, .und, .und, .und, .und, .und, .und, .und, .und, .und, .und, .und, .und, .und, .und, .und, .und, .und, .und, .und, .und] G
def hodmanref8_Trim.J13 (M : Mach) (C : Call) (on0i : Nat) (on0o : Nat) (on0n : Nat) (met1i : Nat) (met1o : Nat) (met1n : Nat) (out6i : Nat) (out6o : Nat) (out6n : Nat) (gone7 : Int) (i8 : Int) (t47 : Bool) (G : GH) : Option Res := M.j (execC M.j C (M.ag C) hodmanref8_Trim.c13 (hodmanref8_Trim.e16 M C) (hodmanref8_Trim.k17 M C)) [.v (.c (.sl 1 on0i on0o on0n)), .v (.c (.sl 1 met1i met1o met1n)), .und, .und, .und, .und, .v (.c (.sl 1 out6i out6o out6n)), .v (.c (.int .i64 gone7)), .v (.c (.int .i64 i8)), .und, .und, .und, .und, .und, .und, .und, .und, .und, .und, .und, .und, .und, .und, .und, .und, .und, .und, .und, .und, .und, .und, .und, .und, .und, .und, .und, .und, .und, .und, .und, .und, .und, .und, .und, .und, .und, .und, .v (.c (.bool t47)), .und, .und, .und, .und] G
def hodmanref8_Trim.J17 (M : Mach) (C : Call) (on0i : Nat) (on0o : Nat) (on0n : Nat) (met1i : Nat) (met1o : Nat) (met1n : Nat) (out6i : Nat) (out6o : Nat) (out6n : Nat) (gone7 : Int) (i8 : Int) (G : GH) : Option Res := M.j (execC M.j C (M.ag C) hodmanref8_Trim.c17 (hodmanref8_Trim.e21 M C) (hodmanref8_Trim.k20 M C)) [.v (.c (.sl 1 on0i on0o on0n)), .v (.c (.sl 1 met1i met1o met1n)), .und, .und, .und, .und, .v (.c (.sl 1 out6i out6o out6n)), .v (.c (.int .i64 gone7)), .v (.c (.int .i64 i8)), .und, .und, .und, .und, .und, .und, .und, .und, .und, .und, .und, .und, .und, .und, .und, .und, .und, .und, .und, .und, .und, .und, .und, .und, .und, .und, .und, .und, .und, .und, .und, .und, .und, .und, .und, .und, .und, .und, .und, .und, .und, .und, .und] G
theorem hodmanref8_Trim.L20_eq (M : Mach) (C : Call) (on0i : Nat) (on0o : Nat) (on0n : Nat) (met1i : Nat) (met1o : Nat) (met1n : Nat) (out6i : Nat) (out6o : Nat) (out6n : Nat) (gone7 : Int) (i8 : Int) (G : GH) : hodmanref8_Trim.L20 M C on0i on0o on0n met1i met1o met1n out6i out6o out6n gone7 i8 G = (bif decide (i8 < ((on0n : Nat) : Int)) then guardK (decide (0 ≤ i8 ∧ i8 < ((on0n : Nat) : Int))) (((G.ld on0i (on0o + Int.toNat i8 * 1)).bind Cell.asB).bind fun qb_2 => bif qb_2 then bif decide (i8 < ((met1n : Nat) : Int)) then guardK (decide (0 ≤ i8 ∧ i8 < ((met1n : Nat) : Int))) (((G.ld met1i (met1o + Int.toNat i8 * 1)).bind Cell.asB).bind fun qb_3 => guardK (decide (0 ≤ i8 ∧ i8 < ((out6n : Nat) : Int))) ((G.sts out6i (out6o + Int.toNat i8 * 1) [.bool qb_3]).bind fun qG_4 => hodmanref8_Trim.J14 M C on0i on0o on0n met1i met1o met1n out6i out6o out6n gone7 i8 qG_4)) else guardK (decide (0 ≤ i8 ∧ i8 < ((out6n : Nat) : Int))) ((G.sts out6i (out6o + Int.toNat i8 * 1) [.bool false]).bind fun qG_5 => hodmanref8_Trim.J14 M C on0i on0o on0n met1i met1o met1n out6i out6o out6n gone7 i8 qG_5) else guardK (decide (0 ≤ i8 ∧ i8 < ((out6n : Nat) : Int))) ((G.sts out6i (out6o + Int.toNat i8 * 1) [.bool false]).bind fun qG_6 => hodmanref8_Trim.J14 M C on0i on0o on0n met1i met1o met1n out6i out6o out6n gone7 i8 qG_6)) else some ([.c (.sl 1 out6i out6o out6n), .c (.int .i64 gone7)], G)) := (M.hs _ _ _ _ _ _ _).trans (by kernel_rfl)
theorem hodmanref8_Trim.J14_eq (M : Mach) (C : Call) (on0i : Nat) (on0o : Nat) (on0n : Nat) (met1i : Nat) (met1o : Nat) (met1n : Nat) (out6i : Nat) (out6o : Nat) (out6n : Nat) (gone7 : Int) (i8 : Int) (G : GH) : hodmanref8_Trim.J14 M C on0i on0o on0n met1i met1o met1n out6i out6o out6n gone7 i8 G = (guardK (decide (0 ≤ i8 ∧ i8 < ((on0n : Nat) : Int))) (((G.ld on0i (on0o + Int.toNat i8 * 1)).bind Cell.asB).bind fun qb_7 => bif qb_7 then guardK (decide (0 ≤ i8 ∧ i8 < ((out6n : Nat) : Int))) (((G.ld out6i (out6o + Int.toNat i8 * 1)).bind Cell.asB).bind fun qb_8 => hodmanref8_Trim.J13 M C on0i on0o on0n met1i met1o met1n out6i out6o out6n gone7 i8 (!qb_8) G) else hodmanref8_Trim.J13 M C on0i on0o on0n met1i met1o met1n out6i out6o out6n gone7 i8 false G)) := (M.hj _ _ _).trans (by kernel_rfl)
theorem hodmanref8_Trim.J13_eq (M : Mach) (C : Call) (on0i : Nat) (on0o : Nat) (on0n : Nat) (met1i : Nat) (met1o : Nat) (met1n : Nat) (out6i : Nat) (out6o : Nat) (out6n : Nat) (gone7 : Int) (i8 : Int) (t47 : Bool) (G : GH) : hodmanref8_Trim.J13 M C on0i on0o on0n met1i met1o met1n out6i out6o out6n gone7 i8 t47 G = (bif t47 then hodmanref8_Trim.J17 M C on0i on0o on0n met1i met1o met1n out6i out6o out6n (IntKind.i64.wrap (gone7 + 1)) i8 G else hodmanref8_Trim.J17 M C on0i on0o on0n met1i met1o met1n out6i out6o out6n gone7 i8 G) := (M.hj _ _ _).trans (by kernel_rfl)
theorem hodmanref8_Trim.J17_eq (M : Mach) (C : Call) (on0i : Nat) (on0o : Nat) (on0n : Nat) (met1i : Nat) (met1o : Nat) (met1n : Nat) (out6i : Nat) (out6o : Nat) (out6n : Nat) (gone7 : Int) (i8 : Int) (G : GH) : hodmanref8_Trim.J17 M C on0i on0o on0n met1i met1o met1n out6i out6o out6n gone7 i8 G = (hodmanref8_Trim.L20 M C on0i on0o on0n met1i met1o met1n out6i out6o out6n gone7 (IntKind.i64.wrap (i8 + 1)) G) := (M.hj _ _ _).trans (by kernel_rfl)
def hodmanref8_Trim.f (M : Mach) (C : Call) (on0i : Nat) (on0o : Nat) (on0n : Nat) (met1i : Nat) (met1o : Nat) (met1n : Nat) (G : GH) : Option Res := guardK (decide (0 ≤ ((on0n : Nat) : Int) ∧ ((on0n : Nat) : Int) ≤ (most : Int))) (let qG_1 := G.alloc (.row (reps (Int.toNat ((on0n : Nat) : Int)) [.bool false]) false); hodmanref8_Trim.L20 M C on0i on0o on0n met1i met1o met1n G.next 0 (Int.toNat ((on0n : Nat) : Int)) 0 0 qG_1)
theorem hodmanref8_Trim.eq (M : Mach) (C : Call) (on0i : Nat) (on0o : Nat) (on0n : Nat) (met1i : Nat) (met1o : Nat) (met1n : Nat) (G : GH) : runF M C hodmanref8_Trim.d [.c (.sl 1 on0i on0o on0n), .c (.sl 1 met1i met1o met1n)] G = hodmanref8_Trim.f M C on0i on0o on0n met1i met1o met1n G := by kernel_rfl

/- 67 hodman/hodmanref17.put -/
def hodmanref17_put.c12 : DCode := (.cond (.t 25) (.region [⟨0, some 26, .move (.t 5), none⟩,
    ⟨1, some 27, .ldL 3 44 (.agg [.int .i64, .int .i64, .int .i64]), none⟩,
    ⟨2, some 28, .bslice 1 3 [.int .i64 0, .int .i64 0, .int .i64 0] [(0, 3, .t 27)], none⟩,
    ⟨3, some 29, .app (.t 26) (.t 28) 3 24, none⟩,
    ⟨4, some 5, .move (.t 29), none⟩,
    ⟨5, some 6, .move (.k (.c (.bool true))), none⟩]) .skip)
def hodmanref17_put.c14 : DCode := (.region [⟨0, some 30, .move (.t 5), none⟩,
    ⟨1, some 31, .move (.t 0), none⟩,
    ⟨2, some 32, .move (.t 7), none⟩,
    ⟨3, some 33, .iaddr (.t 31) (.t 32) 3, none⟩,
    ⟨4, some 34, .ldG 33 (.agg [.int .i64, .int .i64, .int .i64]), none⟩,
    ⟨5, some 35, .bslice 1 3 [.int .i64 0, .int .i64 0, .int .i64 0] [(0, 3, .t 34)], none⟩,
    ⟨6, some 36, .app (.t 30) (.t 35) 3 24, none⟩,
    ⟨7, some 5, .move (.t 36), none⟩])
def hodmanref17_put.c17 : DCode := (.region [⟨0, some 12, .move (.t 7), none⟩,
    ⟨1, some 13, .bin .add .i64 (.t 12) (.k (.c (.int .i64 1))), none⟩,
    ⟨2, some 7, .move (.t 13), none⟩])
def hodmanref17_put.c19 : DCode := (.seq (.seq (.region [⟨0, some 8, .move (.t 7), none⟩,
    ⟨1, some 9, .move (.t 0), none⟩,
    ⟨2, some 10, .len (.t 9), none⟩,
    ⟨3, some 11, .cmp .lss .i64 (.t 8) (.t 10), none⟩]) (.cond (.t 11) .skip (.exit 0))) (.seq (.block 1 (.seq (.seq (.region [⟨0, some 14, .move (.t 6), none⟩,
    ⟨1, some 15, .not (.t 14), none⟩,
    ⟨2, some 16, .move (.t 15), none⟩,
    ⟨3, some 17, .move (.t 0), some (16, true)⟩,
    ⟨4, some 18, .move (.t 7), some (16, true)⟩,
    ⟨5, some 19, .iaddr (.t 17) (.t 18) 3, some (16, true)⟩,
    ⟨6, some 20, .faddr 19 0, some (16, true)⟩,
    ⟨7, some 21, .ldG 20 (.c (.int .i64)), some (16, true)⟩,
    ⟨8, some 22, .faddr 3 0, some (16, true)⟩,
    ⟨9, some 23, .ldL 22 44 (.c (.int .i64)), some (16, true)⟩,
    ⟨10, some 24, .cmp .gtr .i64 (.t 21) (.t 23), some (16, true)⟩,
    ⟨11, some 25, .pick (.t 16) (.t 24) (.k (.c (.bool false))), none⟩]) (.cut [0, 3, 5, 6, 7, 25, 44] hodmanref17_put.c12)) (.cut [0, 3, 5, 6, 7, 44] hodmanref17_put.c14))) hodmanref17_put.c17))
def hodmanref17_put.c20 : DCode := (.loop [0, 3, 5, 6, 7, 44] hodmanref17_put.c19)
def hodmanref17_put.c30 : DCode := (.seq (.region [⟨0, some 43, .move (.t 5), none⟩,
    ⟨1, some 4, .move (.t 43), none⟩]) .ret)
def hodmanref17_put.c31 : DCode := (.seq (.seq (.region [⟨0, some 37, .move (.t 6), none⟩,
    ⟨1, some 38, .not (.t 37), none⟩]) (.cond (.t 38) (.region [⟨0, some 39, .move (.t 5), none⟩,
    ⟨1, some 40, .ldL 3 44 (.agg [.int .i64, .int .i64, .int .i64]), none⟩,
    ⟨2, some 41, .bslice 1 3 [.int .i64 0, .int .i64 0, .int .i64 0] [(0, 3, .t 40)], none⟩,
    ⟨3, some 42, .app (.t 39) (.t 41) 3 24, none⟩,
    ⟨4, some 5, .move (.t 42), none⟩]) .skip)) (.cut [5] hodmanref17_put.c30))
def hodmanref17_put.d : DFn := { ntmps := 45, res := [.t 4], body := (.seq (.region [⟨0, some 3, .boxv 44 [22] (.t 1) 3, none⟩,
    ⟨1, some 4, .move (.k (.c (.sl 3 0 0 0))), none⟩]) (.seq (.region [⟨0, some 5, .move (.k (.c (.sl 3 0 0 0))), none⟩]) (.seq (.region [⟨0, some 6, .move (.k (.c (.bool false))), none⟩]) (.seq (.seq (.region [⟨0, some 7, .move (.k (.c (.int .i64 0))), none⟩]) (.block 0 hodmanref17_put.c20)) hodmanref17_put.c31)))) }
def hodmanref17_put.k31 (M : Mach) (C : Call) : Kont := execC M.j C (M.ag C) hodmanref17_put.c31 ({ exits := [], ret := retK hodmanref17_put.d } : Env) (retK hodmanref17_put.d)
def hodmanref17_put.e21 (M : Mach) (C : Call) : Env := { exits := (0, (hodmanref17_put.k31 M C)) :: (({ exits := [], ret := retK hodmanref17_put.d } : Env)).exits, ret := (({ exits := [], ret := retK hodmanref17_put.d } : Env)).ret }
def hodmanref17_put.L20 (M : Mach) (C : Call) (l0i : Nat) (l0o : Nat) (l0n : Nat) (out5i : Nat) (out5o : Nat) (out5n : Nat) (done6 : Bool) (i7 : Int) (b44_0 : Int) (b44_1 : Int) (b44_2 : Int) (G : GH) : Option Res := M.ag C [0, 3, 5, 6, 7, 44] hodmanref17_put.c19 (hodmanref17_put.e21 M C) (hodmanref17_put.k31 M C) [.v (.c (.sl 3 l0i l0o l0n)), .und, .und, .ref 44 0, .und, .v (.c (.sl 3 out5i out5o out5n)), .v (.c (.bool done6)), .v (.c (.int .i64 i7)), .und, .und, .und, .und, .und, .und, .und, .und, .und, .und, .und, .und, .und, .und, .und, .und, .und, .und, .und, .und, .und, .und, .und, .und, .und, .und, .und, .und, .und, .und, .und, .und, .und, .und, .und, .und, .box [.int .i64 b44_0, .int .i64 b44_1, .int .i64 b44_2]] G
def hodmanref17_put.k20 (M : Mach) (C : Call) : Kont := fun tm G => M.ag C [0, 3, 5, 6, 7, 44] hodmanref17_put.c19 (hodmanref17_put.e21 M C) (hodmanref17_put.k31 M C) (restr [0, 3, 5, 6, 7, 44] 0 tm) G
def hodmanref17_put.k17 (M : Mach) (C : Call) : Kont := execC M.j C (M.ag C) hodmanref17_put.c17 (hodmanref17_put.e21 M C) (hodmanref17_put.k20 M C)
def hodmanref17_put.e16 (M : Mach) (C : Call) : Env := { exits := (1, (hodmanref17_put.k17 M C)) :: ((hodmanref17_put.e21 M C)).exits, ret := ((hodmanref17_put.e21 M C)).ret }
def hodmanref17_put.k14 (M : Mach) (C : Call) : Kont := execC M.j C (M.ag C) (.cut [0, 3, 5, 6, 7, 44] hodmanref17_put.c14) (hodmanref17_put.e16 M C) (hodmanref17_put.k17 M C)
def hodmanref17_put.J12 (M : Mach) (C : Call) (l0i : Nat) (l0o : Nat) (l0n : Nat) (out5i : Nat) (out5o : Nat) (out5n : Nat) (done6 : Bool) (i7 : Int) (t25 : Bool) (b44_0 : Int) (b44_1 : Int) (b44_2 : Int) (G : GH) : Option Res := M.j (execC M.j C (M.ag C) hodmanref17_put.c12 (hodmanref17_put.e16 M C) (hodmanref17_put.k14 M C)) [.v (.c (.sl 3 l0i l0o l0n)), .und, .und, .ref 44 0, .und, .v (.c (.sl 3 out5i out5o out5n)), .v (.c (.bool done6)), .v (.c (.int .i64 i7)), .und, .und, .und, .und, .und, .und, .und, .und, .und, .und, .und, .und, .und, .und, .und, .und, .und, .v (.c (.bool t25)), .und, .und, .und, .und, .und, .und, .und, .und, .und, .und, .und, .und, .und, .und, .und, .und, .und, .und, .box [.int .i64 b44_0, .int .i64 b44_1, .int .i64 b44_2]] G
def hodmanref17_put.J30 (M : Mach) (C : Call) (out5i : Nat) (out5o : Nat) (out5n : Nat) (G : GH) : Option Res := M.j (execC M.j C (M.ag C) hodmanref17_put.c30 ({ exits := [], ret := retK hodmanref17_put.d } : Env) (retK hodmanref17_put.d)) [.und, .und, .und, .und, .und, .v (.c (.sl 3 out5i out5o out5n)), .und, .und, .und, .und, .und, .und, .und, .und, .und, .und, .und, .und, .und, .und, .und, .und, .und, .und, .und, .und, .und, .und, .und, .und, .und, .und, .und, .und, .und, .und, .und, .und, .und, .und, .und, .und, .und, .und, .und] G
def hodmanref17_put.J14 (M : Mach) (C : Call) (l0i : Nat) (l0o : Nat) (l0n : Nat) (out5i : Nat) (out5o : Nat) (out5n : Nat) (done6 : Bool) (i7 : Int) (b44_0 : Int) (b44_1 : Int) (b44_2 : Int) (G : GH) : Option Res := M.j (execC M.j C (M.ag C) hodmanref17_put.c14 (hodmanref17_put.e16 M C) (hodmanref17_put.k17 M C)) [.v (.c (.sl 3 l0i l0o l0n)), .und, .und, .ref 44 0, .und, .v (.c (.sl 3 out5i out5o out5n)), .v (.c (.bool done6)), .v (.c (.int .i64 i7)), .und, .und, .und, .und, .und, .und, .und, .und, .und, .und, .und, .und, .und, .und, .und, .und, .und, .und, .und, .und, .und, .und, .und, .und, .und, .und, .und, .und, .und, .und, .und, .und, .und, .und, .und, .und, .box [.int .i64 b44_0, .int .i64 b44_1, .int .i64 b44_2]] G
theorem hodmanref17_put.L20_eq (M : Mach) (C : Call) (l0i : Nat) (l0o : Nat) (l0n : Nat) (out5i : Nat) (out5o : Nat) (out5n : Nat) (done6 : Bool) (i7 : Int) (b44_0 : Int) (b44_1 : Int) (b44_2 : Int) (G : GH) : hodmanref17_put.L20 M C l0i l0o l0n out5i out5o out5n done6 i7 b44_0 b44_1 b44_2 G = (bif decide (i7 < ((l0n : Nat) : Int)) then bif (!done6) then guardK (decide (0 ≤ i7 ∧ i7 < ((l0n : Nat) : Int))) (((G.ld l0i ((l0o + Int.toNat i7 * 3) + 0)).bind (Cell.asI .i64)).bind fun qx_1 => hodmanref17_put.J12 M C l0i l0o l0n out5i out5o out5n done6 i7 (decide (qx_1 > b44_0)) b44_0 b44_1 b44_2 G) else hodmanref17_put.J12 M C l0i l0o l0n out5i out5o out5n done6 i7 false b44_0 b44_1 b44_2 G else bif (!done6) then let qG_2 := G.alloc (.row [.int .i64 b44_0, .int .i64 b44_1, .int .i64 b44_2] false); (if 1 = 0 then some [] else qG_2.lds G.next 0 (1 * 3)).bind fun qnew_3 => guardK (decide (out5n + 1 ≤ most)) ((qG_2.app out5i out5o out5n 3 1 qnew_3).bind fun qp_4 => hodmanref17_put.J30 M C qp_4.1 qp_4.2.1 (out5n + 1) qp_4.2.2) else hodmanref17_put.J30 M C out5i out5o out5n G) := (M.hs _ _ _ _ _ _ _).trans (by kernel_rfl)
theorem hodmanref17_put.J12_eq (M : Mach) (C : Call) (l0i : Nat) (l0o : Nat) (l0n : Nat) (out5i : Nat) (out5o : Nat) (out5n : Nat) (done6 : Bool) (i7 : Int) (t25 : Bool) (b44_0 : Int) (b44_1 : Int) (b44_2 : Int) (G : GH) : hodmanref17_put.J12 M C l0i l0o l0n out5i out5o out5n done6 i7 t25 b44_0 b44_1 b44_2 G = (bif t25 then let qG_5 := G.alloc (.row [.int .i64 b44_0, .int .i64 b44_1, .int .i64 b44_2] false); (if 1 = 0 then some [] else qG_5.lds G.next 0 (1 * 3)).bind fun qnew_6 => guardK (decide (out5n + 1 ≤ most)) ((qG_5.app out5i out5o out5n 3 1 qnew_6).bind fun qp_7 => hodmanref17_put.J14 M C l0i l0o l0n qp_7.1 qp_7.2.1 (out5n + 1) true i7 b44_0 b44_1 b44_2 qp_7.2.2) else hodmanref17_put.J14 M C l0i l0o l0n out5i out5o out5n done6 i7 b44_0 b44_1 b44_2 G) := (M.hj _ _ _).trans (by kernel_rfl)
theorem hodmanref17_put.J30_eq (M : Mach) (C : Call) (out5i : Nat) (out5o : Nat) (out5n : Nat) (G : GH) : hodmanref17_put.J30 M C out5i out5o out5n G = (some ([.c (.sl 3 out5i out5o out5n)], G)) := (M.hj _ _ _).trans (by kernel_rfl)
theorem hodmanref17_put.J14_eq (M : Mach) (C : Call) (l0i : Nat) (l0o : Nat) (l0n : Nat) (out5i : Nat) (out5o : Nat) (out5n : Nat) (done6 : Bool) (i7 : Int) (b44_0 : Int) (b44_1 : Int) (b44_2 : Int) (G : GH) : hodmanref17_put.J14 M C l0i l0o l0n out5i out5o out5n done6 i7 b44_0 b44_1 b44_2 G = (guardK (decide (0 ≤ i7 ∧ i7 < ((l0n : Nat) : Int))) (((G.ld l0i ((l0o + Int.toNat i7 * 3) + 0)).bind (Cell.asI .i64)).bind fun qx_8 => ((G.ld l0i ((l0o + Int.toNat i7 * 3) + 1)).bind (Cell.asI .i64)).bind fun qx_9 => ((G.ld l0i ((l0o + Int.toNat i7 * 3) + 2)).bind (Cell.asI .i64)).bind fun qx_10 => let qG_11 := G.alloc (.row [.int .i64 qx_8, .int .i64 qx_9, .int .i64 qx_10] false); (if 1 = 0 then some [] else qG_11.lds G.next 0 (1 * 3)).bind fun qnew_12 => guardK (decide (out5n + 1 ≤ most)) ((qG_11.app out5i out5o out5n 3 1 qnew_12).bind fun qp_13 => hodmanref17_put.L20 M C l0i l0o l0n qp_13.1 qp_13.2.1 (out5n + 1) done6 (IntKind.i64.wrap (i7 + 1)) b44_0 b44_1 b44_2 qp_13.2.2))) := (M.hj _ _ _).trans (by kernel_rfl)
def hodmanref17_put.f (M : Mach) (C : Call) (l0i : Nat) (l0o : Nat) (l0n : Nat) (b1_0 : Int) (b1_1 : Int) (b1_2 : Int) (G : GH) : Option Res := hodmanref17_put.L20 M C l0i l0o l0n 0 0 0 false 0 b1_0 b1_1 b1_2 G
theorem hodmanref17_put.eq (M : Mach) (C : Call) (l0i : Nat) (l0o : Nat) (l0n : Nat) (b1_0 : Int) (b1_1 : Int) (b1_2 : Int) (G : GH) : runF M C hodmanref17_put.d [.c (.sl 3 l0i l0o l0n), .agg [.int .i64 b1_0, .int .i64 b1_1, .int .i64 b1_2]] G = hodmanref17_put.f M C l0i l0o l0n b1_0 b1_1 b1_2 G := by kernel_rfl

/- 66 hodman/hodmanref8.Fill -/
def hodmanref8_Fill.c7 : DCode := (.cond (.t 19) (.seq (.region [⟨0, some 20, .move (.t 9), none⟩,
    ⟨1, some 8, .move (.t 20), none⟩]) .ret) .skip)
def hodmanref8_Fill.c18 : DCode := (.cond (.t 35) (.region [⟨0, some 36, .move (.t 9), none⟩,
    ⟨1, some 37, .move (.t 10), none⟩,
    ⟨2, some 38, .move (.t 1), none⟩,
    ⟨3, some 39, .move (.t 2), none⟩,
    ⟨4, some 40, .move (.t 10), none⟩,
    ⟨5, some 41, .move (.t 3), none⟩,
    ⟨6, some 42, .bin .rem .i64 (.t 40) (.t 41), none⟩,
    ⟨7, some 43, .call 73 [.t 38, .t 39, .t 42] [.c (.int .u8)], none⟩,
    ⟨8, some 44, .iaddr (.t 36) (.t 37) 1, none⟩,
    ⟨9, none, .stG 44 (.t 43) 1, none⟩]) .skip)
def hodmanref8_Fill.c21 : DCode := (.region [⟨0, some 25, .move (.t 10), none⟩,
    ⟨1, some 26, .bin .add .i64 (.t 25) (.k (.c (.int .i64 1))), none⟩,
    ⟨2, some 10, .move (.t 26), none⟩])
def hodmanref8_Fill.c23 : DCode := (.seq (.seq (.region [⟨0, some 21, .move (.t 10), none⟩,
    ⟨1, some 22, .move (.t 9), none⟩,
    ⟨2, some 23, .len (.t 22), none⟩,
    ⟨3, some 24, .cmp .lss .i64 (.t 21) (.t 23), none⟩]) (.cond (.t 24) .skip (.exit 0))) (.seq (.block 1 (.seq (.region [⟨0, some 27, .move (.t 3), none⟩,
    ⟨1, some 28, .cmp .gtr .i64 (.t 27) (.k (.c (.int .i64 0))), none⟩,
    ⟨2, some 29, .move (.t 28), none⟩,
    ⟨3, some 30, .move (.t 10), some (29, true)⟩,
    ⟨4, some 31, .move (.t 3), some (29, true)⟩,
    ⟨5, some 32, .bin .quo .i64 (.t 30) (.t 31), some (29, true)⟩,
    ⟨6, some 33, .move (.t 2), some (29, true)⟩,
    ⟨7, some 34, .cmp .eql .i64 (.t 32) (.t 33), some (29, true)⟩,
    ⟨8, some 35, .pick (.t 29) (.t 34) (.k (.c (.bool false))), none⟩]) (.cut [1, 2, 3, 9, 10, 35] hodmanref8_Fill.c18))) (.cut [1, 2, 3, 9, 10] hodmanref8_Fill.c21)))
def hodmanref8_Fill.c24 : DCode := (.loop [1, 2, 3, 9, 10] hodmanref8_Fill.c23)
def hodmanref8_Fill.c29 : DCode := (.seq (.region [⟨0, some 45, .move (.t 9), none⟩,
    ⟨1, some 8, .move (.t 45), none⟩]) .ret)
def hodmanref8_Fill.c30 : DCode := (.seq (.seq (.region [⟨0, some 10, .move (.k (.c (.int .i64 0))), none⟩]) (.block 0 hodmanref8_Fill.c24)) hodmanref8_Fill.c29)
def hodmanref8_Fill.d : DFn := { ntmps := 46, res := [.t 8], body := (.seq (.region [⟨0, some 8, .move (.k (.c (.sl 1 0 0 0))), none⟩]) (.seq (.region [⟨0, some 11, .bslice 0 1 [] [], none⟩,
    ⟨1, some 12, .move (.t 0), none⟩,
    ⟨2, some 13, .app (.t 11) (.t 12) 1 1, none⟩,
    ⟨3, some 9, .move (.t 13), none⟩]) (.seq (.seq (.region [⟨0, some 14, .move (.t 2), none⟩,
    ⟨1, some 15, .cmp .lss .i64 (.t 14) (.k (.c (.int .i64 0))), none⟩,
    ⟨2, some 16, .move (.t 15), none⟩,
    ⟨3, some 17, .move (.t 3), some (16, false)⟩,
    ⟨4, some 18, .cmp .lss .i64 (.t 17) (.k (.c (.int .i64 0))), some (16, false)⟩,
    ⟨5, some 19, .pick (.t 16) (.k (.c (.bool true))) (.t 18), none⟩]) (.cut [1, 2, 3, 9, 19] hodmanref8_Fill.c7)) hodmanref8_Fill.c30))) }
def hodmanref8_Fill.k30 (M : Mach) (C : Call) : Kont := execC M.j C (M.ag C) hodmanref8_Fill.c30 ({ exits := [], ret := retK hodmanref8_Fill.d } : Env) (retK hodmanref8_Fill.d)
def hodmanref8_Fill.J7 (M : Mach) (C : Call) (seed1 : Int) (page2 : Int) (size3 : Int) (out9i : Nat) (out9o : Nat) (out9n : Nat) (t19 : Bool) (G : GH) : Option Res := M.j (execC M.j C (M.ag C) hodmanref8_Fill.c7 ({ exits := [], ret := retK hodmanref8_Fill.d } : Env) (hodmanref8_Fill.k30 M C)) [.und, .v (.c (.int .i64 seed1)), .v (.c (.int .i64 page2)), .v (.c (.int .i64 size3)), .und, .und, .und, .und, .und, .v (.c (.sl 1 out9i out9o out9n)), .und, .und, .und, .und, .und, .und, .und, .und, .und, .v (.c (.bool t19)), .und, .und, .und, .und, .und, .und, .und, .und, .und, .und, .und, .und, .und, .und, .und, .und, .und, .und, .und, .und, .und, .und, .und, .und, .und, .und] G
def hodmanref8_Fill.k29 (M : Mach) (C : Call) : Kont := execC M.j C (M.ag C) hodmanref8_Fill.c29 ({ exits := [], ret := retK hodmanref8_Fill.d } : Env) (retK hodmanref8_Fill.d)
def hodmanref8_Fill.e25 (M : Mach) (C : Call) : Env := { exits := (0, (hodmanref8_Fill.k29 M C)) :: (({ exits := [], ret := retK hodmanref8_Fill.d } : Env)).exits, ret := (({ exits := [], ret := retK hodmanref8_Fill.d } : Env)).ret }
def hodmanref8_Fill.L24 (M : Mach) (C : Call) (seed1 : Int) (page2 : Int) (size3 : Int) (out9i : Nat) (out9o : Nat) (out9n : Nat) (i10 : Int) (G : GH) : Option Res := M.ag C [1, 2, 3, 9, 10] hodmanref8_Fill.c23 (hodmanref8_Fill.e25 M C) (hodmanref8_Fill.k29 M C) [.und, .v (.c (.int .i64 seed1)), .v (.c (.int .i64 page2)), .v (.c (.int .i64 size3)), .und, .und, .und, .und, .und, .v (.c (.sl 1 out9i out9o out9n)), .v (.c (.int .i64 i10)), .und, .und, .und, .und, .und, .und, .und, .und, .und, .und, .und, .und, .und, .und, .und, .und, .und, .und, .und, .und, .und, .und, .und, .und, .und, .und, .und, .und, .und, .und, .und, .und, .und, .und, .und] G
def hodmanref8_Fill.k24 (M : Mach) (C : Call) : Kont := fun tm G => M.ag C [1, 2, 3, 9, 10] hodmanref8_Fill.c23 (hodmanref8_Fill.e25 M C) (hodmanref8_Fill.k29 M C) (restr [1, 2, 3, 9, 10] 0 tm) G
def hodmanref8_Fill.k21 (M : Mach) (C : Call) : Kont := execC M.j C (M.ag C) (.cut [1, 2, 3, 9, 10] hodmanref8_Fill.c21) (hodmanref8_Fill.e25 M C) (hodmanref8_Fill.k24 M C)
def hodmanref8_Fill.e20 (M : Mach) (C : Call) : Env := { exits := (1, (hodmanref8_Fill.k21 M C)) :: ((hodmanref8_Fill.e25 M C)).exits, ret := ((hodmanref8_Fill.e25 M C)).ret }
def hodmanref8_Fill.J18 (M : Mach) (C : Call) (seed1 : Int) (page2 : Int) (size3 : Int) (out9i : Nat) (out9o : Nat) (out9n : Nat) (i10 : Int) (t35 : Bool) (G : GH) : Option Res := M.j (execC M.j C (M.ag C) hodmanref8_Fill.c18 (hodmanref8_Fill.e20 M C) (hodmanref8_Fill.k21 M C)) [.und, .v (.c (.int .i64 seed1)), .v (.c (.int .i64 page2)), .v (.c (.int .i64 size3)), .und, .und, .und, .und, .und, .v (.c (.sl 1 out9i out9o out9n)), .v (.c (.int .i64 i10)), .und, .und, .und, .und, .und, .und, .und, .und, .und, .und, .und, .und, .und, .und, .und, .und, .und, .und, .und, .und, .und, .und, .und, .und, .v (.c (.bool t35)), .und, .und, .und, .und, .und, .und, .und, .und, .und, .und] G
def hodmanref8_Fill.J21 (M : Mach) (C : Call) (seed1 : Int) (page2 : Int) (size3 : Int) (out9i : Nat) (out9o : Nat) (out9n : Nat) (i10 : Int) (G : GH) : Option Res := M.j (execC M.j C (M.ag C) hodmanref8_Fill.c21 (hodmanref8_Fill.e25 M C) (hodmanref8_Fill.k24 M C)) [.und, .v (.c (.int .i64 seed1)), .v (.c (.int .i64 page2)), .v (.c (.int .i64 size3)), .und, .und, .und, .und, .und, .v (.c (.sl 1 out9i out9o out9n)), .v (.c (.int .i64 i10)), .und, .und, .und, .und, .und, .und, .und, .und, .und, .und, .und, .und, .und, .und, .und, .und, .und, .und, .und, .und, .und, .und, .und, .und, .und, .und, .und, .und, .und, .und, .und, .und, .und, .und, .und] G
theorem hodmanref8_Fill.J7_eq (M : Mach) (C : Call) (seed1 : Int) (page2 : Int) (size3 : Int) (out9i : Nat) (out9o : Nat) (out9n : Nat) (t19 : Bool) (G : GH) : hodmanref8_Fill.J7 M C seed1 page2 size3 out9i out9o out9n t19 G = (bif t19 then some ([.c (.sl 1 out9i out9o out9n)], G) else hodmanref8_Fill.L24 M C seed1 page2 size3 out9i out9o out9n 0 G) := (M.hj _ _ _).trans (by kernel_rfl)
theorem hodmanref8_Fill.L24_eq (M : Mach) (C : Call) (seed1 : Int) (page2 : Int) (size3 : Int) (out9i : Nat) (out9o : Nat) (out9n : Nat) (i10 : Int) (G : GH) : hodmanref8_Fill.L24 M C seed1 page2 size3 out9i out9o out9n i10 G = (bif decide (i10 < ((out9n : Nat) : Int)) then bif decide (size3 > 0) then (binD .quo .i64 i10 size3).bind fun qx_4 => hodmanref8_Fill.J18 M C seed1 page2 size3 out9i out9o out9n i10 (decide (qx_4 = page2)) G else hodmanref8_Fill.J18 M C seed1 page2 size3 out9i out9o out9n i10 false G else some ([.c (.sl 1 out9i out9o out9n)], G)) := (M.hs _ _ _ _ _ _ _).trans (by kernel_rfl)
theorem hodmanref8_Fill.J18_eq (M : Mach) (C : Call) (seed1 : Int) (page2 : Int) (size3 : Int) (out9i : Nat) (out9o : Nat) (out9n : Nat) (i10 : Int) (t35 : Bool) (G : GH) : hodmanref8_Fill.J18 M C seed1 page2 size3 out9i out9o out9n i10 t35 G = (bif t35 then (binD .rem .i64 i10 size3).bind fun qx_5 => (C hodmanref8_Byte.id [.c (.int .i64 seed1), .c (.int .i64 page2), .c (.int .i64 qx_5)] G).bind fun qr_6 => (((qr_6.1[0]?).bind V1.c?).bind (Cell.asI .u8)).bind fun qx_7 => guardK (decide (0 ≤ i10 ∧ i10 < ((out9n : Nat) : Int))) ((qr_6.2.sts out9i (out9o + Int.toNat i10 * 1) [.int .u8 qx_7]).bind fun qG_8 => hodmanref8_Fill.J21 M C seed1 page2 size3 out9i out9o out9n i10 qG_8) else hodmanref8_Fill.J21 M C seed1 page2 size3 out9i out9o out9n i10 G) := (M.hj _ _ _).trans (by kernel_rfl)
theorem hodmanref8_Fill.J21_eq (M : Mach) (C : Call) (seed1 : Int) (page2 : Int) (size3 : Int) (out9i : Nat) (out9o : Nat) (out9n : Nat) (i10 : Int) (G : GH) : hodmanref8_Fill.J21 M C seed1 page2 size3 out9i out9o out9n i10 G = (hodmanref8_Fill.L24 M C seed1 page2 size3 out9i out9o out9n (IntKind.i64.wrap (i10 + 1)) G) := (M.hj _ _ _).trans (by kernel_rfl)
def hodmanref8_Fill.f (M : Mach) (C : Call) (mem0i : Nat) (mem0o : Nat) (mem0n : Nat) (seed1 : Int) (page2 : Int) (size3 : Int) (G : GH) : Option Res := let qG_1 := G.alloc (.row [] false); (if mem0n = 0 then some [] else qG_1.lds mem0i mem0o (mem0n * 1)).bind fun qnew_2 => guardK (decide (0 + mem0n ≤ most)) ((qG_1.app G.next 0 0 1 mem0n qnew_2).bind fun qp_3 => bif decide (page2 < 0) then hodmanref8_Fill.J7 M C seed1 page2 size3 qp_3.1 qp_3.2.1 (0 + mem0n) true qp_3.2.2 else hodmanref8_Fill.J7 M C seed1 page2 size3 qp_3.1 qp_3.2.1 (0 + mem0n) (decide (size3 < 0)) qp_3.2.2)
theorem hodmanref8_Fill.eq (M : Mach) (C : Call) (mem0i : Nat) (mem0o : Nat) (mem0n : Nat) (seed1 : Int) (page2 : Int) (size3 : Int) (G : GH) : runF M C hodmanref8_Fill.d [.c (.sl 1 mem0i mem0o mem0n), .c (.int .i64 seed1), .c (.int .i64 page2), .c (.int .i64 size3)] G = hodmanref8_Fill.f M C mem0i mem0o mem0n seed1 page2 size3 G := by kernel_rfl

/- 59 hodman/hodmanref1.Charge -/
def hodmanref1_Charge.c7 : DCode := (.cond (.t 24) (.seq (.region [⟨0, some 6, .move (.k (.c (.int .i64 0))), none⟩,
    ⟨1, some 7, .move (.k (.c (.int .i64 3))), none⟩]) .ret) .skip)
def hodmanref1_Charge.c14 : DCode := (.cond (.t 32) (.seq (.region [⟨0, some 6, .move (.k (.c (.int .i64 0))), none⟩,
    ⟨1, some 7, .move (.k (.c (.int .i64 4))), none⟩]) .ret) .skip)
def hodmanref1_Charge.c20 : DCode := (.seq (.region [⟨0, some 34, .move (.t 1), none⟩,
    ⟨1, some 35, .move (.t 2), none⟩,
    ⟨2, some 36, .mx (.t 34) [.t 35], none⟩,
    ⟨3, some 37, .faddr 3 0, none⟩,
    ⟨4, some 38, .ldL 37 44 (.c (.int .i64)), none⟩,
    ⟨5, some 39, .mx (.t 36) [.t 38], none⟩,
    ⟨6, some 40, .call 42 [.t 39] [.c (.int .i64), .c (.bool)], none⟩,
    ⟨7, some 33, .move (.t 40), none⟩,
    ⟨8, some 41, .ext 33 0, none⟩,
    ⟨9, some 42, .ext 33 1, none⟩,
    ⟨10, some 10, .move (.t 41), none⟩,
    ⟨11, some 11, .move (.t 42), none⟩]) (.seq (.region [⟨0, some 43, .move (.t 10), none⟩,
    ⟨1, some 6, .move (.t 43), none⟩,
    ⟨2, some 7, .move (.k (.c (.int .i64 0))), none⟩]) .ret))
def hodmanref1_Charge.c21 : DCode := (.seq (.seq (.region [⟨0, some 25, .move (.t 1), none⟩,
    ⟨1, some 26, .cmp .lss .i64 (.t 25) (.k (.c (.int .i64 0))), none⟩,
    ⟨2, some 27, .move (.t 26), none⟩,
    ⟨3, some 28, .move (.t 1), some (27, false)⟩,
    ⟨4, some 29, .faddr 3 1, some (27, false)⟩,
    ⟨5, some 30, .ldL 29 44 (.c (.int .i64)), some (27, false)⟩,
    ⟨6, some 31, .cmp .gtr .i64 (.t 28) (.t 30), some (27, false)⟩,
    ⟨7, some 32, .pick (.t 27) (.k (.c (.bool true))) (.t 31), none⟩]) (.cut [1, 2, 3, 32, 44] hodmanref1_Charge.c14)) hodmanref1_Charge.c20)
def hodmanref1_Charge.d : DFn := { ntmps := 45, res := [.t 6, .t 7], body := (.seq (.region [⟨0, some 3, .boxv 44 [21, 29, 37] (.t 0) 8, none⟩,
    ⟨1, some 6, .move (.k (.c (.int .i64 0))), none⟩,
    ⟨2, some 7, .move (.k (.c (.int .i64 0))), none⟩]) (.seq (.region [⟨0, some 13, .move (.t 2), none⟩,
    ⟨1, some 14, .call 44 [.t 13] [.c (.int .i64), .c (.bool)], none⟩,
    ⟨2, some 12, .move (.t 14), none⟩,
    ⟨3, some 15, .ext 12 0, none⟩,
    ⟨4, some 16, .ext 12 1, none⟩,
    ⟨5, some 8, .move (.t 15), none⟩,
    ⟨6, some 9, .move (.t 16), none⟩]) (.seq (.seq (.region [⟨0, some 17, .move (.t 9), none⟩,
    ⟨1, some 18, .not (.t 17), none⟩,
    ⟨2, some 19, .move (.t 18), none⟩,
    ⟨3, some 20, .move (.t 2), some (19, false)⟩,
    ⟨4, some 21, .faddr 3 1, some (19, false)⟩,
    ⟨5, some 22, .ldL 21 44 (.c (.int .i64)), some (19, false)⟩,
    ⟨6, some 23, .cmp .gtr .i64 (.t 20) (.t 22), some (19, false)⟩,
    ⟨7, some 24, .pick (.t 19) (.k (.c (.bool true))) (.t 23), none⟩]) (.cut [1, 2, 3, 24, 44] hodmanref1_Charge.c7)) hodmanref1_Charge.c21))) }
def hodmanref1_Charge.k21 (M : Mach) (C : Call) : Kont := execC M.j C (M.ag C) hodmanref1_Charge.c21 ({ exits := [], ret := retK hodmanref1_Charge.d } : Env) (retK hodmanref1_Charge.d)
def hodmanref1_Charge.J7 (M : Mach) (C : Call) (s1 : Int) (a2 : Int) (t24 : Bool) (c44_0 : Int) (c44_1 : Int) (c44_2 : Int) (c44_3 : Int) (c44_4 : Int) (c44_5 : Int) (c44_6 : Int) (c44_7 : Int) (G : GH) : Option Res := M.j (execC M.j C (M.ag C) hodmanref1_Charge.c7 ({ exits := [], ret := retK hodmanref1_Charge.d } : Env) (hodmanref1_Charge.k21 M C)) [.und, .v (.c (.int .i64 s1)), .v (.c (.int .i64 a2)), .ref 44 0, .und, .und, .und, .und, .und, .und, .und, .und, .und, .und, .und, .und, .und, .und, .und, .und, .und, .und, .und, .und, .v (.c (.bool t24)), .und, .und, .und, .und, .und, .und, .und, .und, .und, .und, .und, .und, .und, .und, .und, .und, .und, .und, .und, .box [.int .i64 c44_0, .int .i64 c44_1, .int .i64 c44_2, .int .i64 c44_3, .int .i64 c44_4, .int .i64 c44_5, .int .i64 c44_6, .int .i64 c44_7]] G
def hodmanref1_Charge.k20 (M : Mach) (C : Call) : Kont := execC M.j C (M.ag C) hodmanref1_Charge.c20 ({ exits := [], ret := retK hodmanref1_Charge.d } : Env) (retK hodmanref1_Charge.d)
def hodmanref1_Charge.J14 (M : Mach) (C : Call) (s1 : Int) (a2 : Int) (t32 : Bool) (c44_0 : Int) (c44_1 : Int) (c44_2 : Int) (c44_3 : Int) (c44_4 : Int) (c44_5 : Int) (c44_6 : Int) (c44_7 : Int) (G : GH) : Option Res := M.j (execC M.j C (M.ag C) hodmanref1_Charge.c14 ({ exits := [], ret := retK hodmanref1_Charge.d } : Env) (hodmanref1_Charge.k20 M C)) [.und, .v (.c (.int .i64 s1)), .v (.c (.int .i64 a2)), .ref 44 0, .und, .und, .und, .und, .und, .und, .und, .und, .und, .und, .und, .und, .und, .und, .und, .und, .und, .und, .und, .und, .und, .und, .und, .und, .und, .und, .und, .und, .v (.c (.bool t32)), .und, .und, .und, .und, .und, .und, .und, .und, .und, .und, .und, .box [.int .i64 c44_0, .int .i64 c44_1, .int .i64 c44_2, .int .i64 c44_3, .int .i64 c44_4, .int .i64 c44_5, .int .i64 c44_6, .int .i64 c44_7]] G
theorem hodmanref1_Charge.J7_eq (M : Mach) (C : Call) (s1 : Int) (a2 : Int) (t24 : Bool) (c44_0 : Int) (c44_1 : Int) (c44_2 : Int) (c44_3 : Int) (c44_4 : Int) (c44_5 : Int) (c44_6 : Int) (c44_7 : Int) (G : GH) : hodmanref1_Charge.J7 M C s1 a2 t24 c44_0 c44_1 c44_2 c44_3 c44_4 c44_5 c44_6 c44_7 G = (bif t24 then some ([.c (.int .i64 0), .c (.int .i64 3)], G) else bif decide (s1 < 0) then hodmanref1_Charge.J14 M C s1 a2 true c44_0 c44_1 c44_2 c44_3 c44_4 c44_5 c44_6 c44_7 G else hodmanref1_Charge.J14 M C s1 a2 (decide (s1 > c44_1)) c44_0 c44_1 c44_2 c44_3 c44_4 c44_5 c44_6 c44_7 G) := (M.hj _ _ _).trans (by kernel_rfl)
theorem hodmanref1_Charge.J14_eq (M : Mach) (C : Call) (s1 : Int) (a2 : Int) (t32 : Bool) (c44_0 : Int) (c44_1 : Int) (c44_2 : Int) (c44_3 : Int) (c44_4 : Int) (c44_5 : Int) (c44_6 : Int) (c44_7 : Int) (G : GH) : hodmanref1_Charge.J14 M C s1 a2 t32 c44_0 c44_1 c44_2 c44_3 c44_4 c44_5 c44_6 c44_7 G = (bif t32 then some ([.c (.int .i64 0), .c (.int .i64 4)], G) else (C hodmanref1_Up.id [.c (.int .i64 (mx2 (mx2 s1 a2) c44_0))] G).bind fun qr_4 => (((qr_4.1[0]?).bind V1.c?).bind (Cell.asI .i64)).bind fun qx_5 => (((qr_4.1[1]?).bind V1.c?).bind Cell.asB).bind fun qb_6 => some ([.c (.int .i64 qx_5), .c (.int .i64 0)], qr_4.2)) := (M.hj _ _ _).trans (by kernel_rfl)
def hodmanref1_Charge.f (M : Mach) (C : Call) (c0_0 : Int) (c0_1 : Int) (c0_2 : Int) (c0_3 : Int) (c0_4 : Int) (c0_5 : Int) (c0_6 : Int) (c0_7 : Int) (s1 : Int) (a2 : Int) (G : GH) : Option Res := (C hodmanref1_Log.id [.c (.int .i64 a2)] G).bind fun qr_1 => (((qr_1.1[0]?).bind V1.c?).bind (Cell.asI .i64)).bind fun qx_2 => (((qr_1.1[1]?).bind V1.c?).bind Cell.asB).bind fun qb_3 => bif (!qb_3) then hodmanref1_Charge.J7 M C s1 a2 true c0_0 c0_1 c0_2 c0_3 c0_4 c0_5 c0_6 c0_7 qr_1.2 else hodmanref1_Charge.J7 M C s1 a2 (decide (a2 > c0_1)) c0_0 c0_1 c0_2 c0_3 c0_4 c0_5 c0_6 c0_7 qr_1.2
theorem hodmanref1_Charge.eq (M : Mach) (C : Call) (c0_0 : Int) (c0_1 : Int) (c0_2 : Int) (c0_3 : Int) (c0_4 : Int) (c0_5 : Int) (c0_6 : Int) (c0_7 : Int) (s1 : Int) (a2 : Int) (G : GH) : runF M C hodmanref1_Charge.d [.agg [.int .i64 c0_0, .int .i64 c0_1, .int .i64 c0_2, .int .i64 c0_3, .int .i64 c0_4, .int .i64 c0_5, .int .i64 c0_6, .int .i64 c0_7], .c (.int .i64 s1), .c (.int .i64 a2)] G = hodmanref1_Charge.f M C c0_0 c0_1 c0_2 c0_3 c0_4 c0_5 c0_6 c0_7 s1 a2 G := by kernel_rfl

/- 70 hodman/class.Charge -/
def class_Charge.c7 : DCode := (.cond (.t 24) (.seq (.region [⟨0, some 6, .move (.k (.c (.int .i64 0))), none⟩,
    ⟨1, some 7, .move (.k (.c (.int .i64 3))), none⟩]) .ret) .skip)
def class_Charge.c15 : DCode := (.cond (.t 32) (.seq (.region [⟨0, some 6, .move (.k (.c (.int .i64 0))), none⟩,
    ⟨1, some 7, .move (.k (.c (.int .i64 4))), none⟩]) .ret) .skip)
def class_Charge.c21 : DCode := (.seq (.region [⟨0, some 34, .move (.t 1), none⟩,
    ⟨1, some 35, .move (.t 2), none⟩,
    ⟨2, some 36, .faddr 3 0, none⟩,
    ⟨3, some 37, .ldL 36 43 (.c (.int .i64)), none⟩,
    ⟨4, some 38, .mx (.t 34) [.t 35, .t 37], none⟩,
    ⟨5, some 39, .call 75 [.t 38] [.c (.int .i64), .c (.bool)], none⟩,
    ⟨6, some 33, .move (.t 39), none⟩,
    ⟨7, some 40, .ext 33 0, none⟩,
    ⟨8, some 41, .ext 33 1, none⟩,
    ⟨9, some 10, .move (.t 40), none⟩,
    ⟨10, some 11, .move (.t 41), none⟩]) (.seq (.region [⟨0, some 42, .move (.t 10), none⟩,
    ⟨1, some 6, .move (.t 42), none⟩,
    ⟨2, some 7, .move (.k (.c (.int .i64 0))), none⟩]) .ret))
def class_Charge.c22 : DCode := (.seq (.seq (.region [⟨0, some 25, .move (.t 1), none⟩,
    ⟨1, some 26, .cmp .lss .i64 (.t 25) (.k (.c (.int .i64 0))), none⟩,
    ⟨2, some 27, .move (.t 26), none⟩,
    ⟨3, some 28, .move (.t 1), some (27, false)⟩,
    ⟨4, some 29, .faddr 3 1, some (27, false)⟩,
    ⟨5, some 30, .ldL 29 43 (.c (.int .i64)), some (27, false)⟩,
    ⟨6, some 31, .cmp .gtr .i64 (.t 28) (.t 30), some (27, false)⟩,
    ⟨7, some 32, .pick (.t 27) (.k (.c (.bool true))) (.t 31), none⟩]) (.cut [1, 2, 3, 32, 43] class_Charge.c15)) class_Charge.c21)
def class_Charge.d : DFn := { ntmps := 44, res := [.t 6, .t 7], body := (.seq (.region [⟨0, some 3, .boxv 43 [21, 29, 36] (.t 0) 8, none⟩,
    ⟨1, some 6, .move (.k (.c (.int .i64 0))), none⟩,
    ⟨2, some 7, .move (.k (.c (.int .i64 0))), none⟩]) (.seq (.seq (.region [⟨0, some 13, .move (.t 2), none⟩,
    ⟨1, some 14, .call 74 [.t 13] [.c (.int .i64), .c (.bool)], none⟩,
    ⟨2, some 12, .move (.t 14), none⟩,
    ⟨3, some 15, .ext 12 0, none⟩,
    ⟨4, some 16, .ext 12 1, none⟩,
    ⟨5, some 8, .move (.t 15), none⟩,
    ⟨6, some 9, .move (.t 16), none⟩]) (.seq (.region [⟨0, some 17, .move (.t 9), none⟩,
    ⟨1, some 18, .not (.t 17), none⟩,
    ⟨2, some 19, .move (.t 18), none⟩,
    ⟨3, some 20, .move (.t 2), some (19, false)⟩,
    ⟨4, some 21, .faddr 3 1, some (19, false)⟩,
    ⟨5, some 22, .ldL 21 43 (.c (.int .i64)), some (19, false)⟩,
    ⟨6, some 23, .cmp .gtr .i64 (.t 20) (.t 22), some (19, false)⟩,
    ⟨7, some 24, .pick (.t 19) (.k (.c (.bool true))) (.t 23), none⟩]) (.cut [1, 2, 3, 24, 43] class_Charge.c7))) class_Charge.c22)) }
def class_Charge.k22 (M : Mach) (C : Call) : Kont := execC M.j C (M.ag C) class_Charge.c22 ({ exits := [], ret := retK class_Charge.d } : Env) (retK class_Charge.d)
def class_Charge.J7 (M : Mach) (C : Call) (s1 : Int) (a2 : Int) (t24 : Bool) (c43_0 : Int) (c43_1 : Int) (c43_2 : Int) (c43_3 : Int) (c43_4 : Int) (c43_5 : Int) (c43_6 : Int) (c43_7 : Int) (G : GH) : Option Res := M.j (execC M.j C (M.ag C) class_Charge.c7 ({ exits := [], ret := retK class_Charge.d } : Env) (class_Charge.k22 M C)) [.und, .v (.c (.int .i64 s1)), .v (.c (.int .i64 a2)), .ref 43 0, .und, .und, .und, .und, .und, .und, .und, .und, .und, .und, .und, .und, .und, .und, .und, .und, .und, .und, .und, .und, .v (.c (.bool t24)), .und, .und, .und, .und, .und, .und, .und, .und, .und, .und, .und, .und, .und, .und, .und, .und, .und, .und, .box [.int .i64 c43_0, .int .i64 c43_1, .int .i64 c43_2, .int .i64 c43_3, .int .i64 c43_4, .int .i64 c43_5, .int .i64 c43_6, .int .i64 c43_7]] G
def class_Charge.k21 (M : Mach) (C : Call) : Kont := execC M.j C (M.ag C) class_Charge.c21 ({ exits := [], ret := retK class_Charge.d } : Env) (retK class_Charge.d)
def class_Charge.J15 (M : Mach) (C : Call) (s1 : Int) (a2 : Int) (t32 : Bool) (c43_0 : Int) (c43_1 : Int) (c43_2 : Int) (c43_3 : Int) (c43_4 : Int) (c43_5 : Int) (c43_6 : Int) (c43_7 : Int) (G : GH) : Option Res := M.j (execC M.j C (M.ag C) class_Charge.c15 ({ exits := [], ret := retK class_Charge.d } : Env) (class_Charge.k21 M C)) [.und, .v (.c (.int .i64 s1)), .v (.c (.int .i64 a2)), .ref 43 0, .und, .und, .und, .und, .und, .und, .und, .und, .und, .und, .und, .und, .und, .und, .und, .und, .und, .und, .und, .und, .und, .und, .und, .und, .und, .und, .und, .und, .v (.c (.bool t32)), .und, .und, .und, .und, .und, .und, .und, .und, .und, .und, .box [.int .i64 c43_0, .int .i64 c43_1, .int .i64 c43_2, .int .i64 c43_3, .int .i64 c43_4, .int .i64 c43_5, .int .i64 c43_6, .int .i64 c43_7]] G
theorem class_Charge.J7_eq (M : Mach) (C : Call) (s1 : Int) (a2 : Int) (t24 : Bool) (c43_0 : Int) (c43_1 : Int) (c43_2 : Int) (c43_3 : Int) (c43_4 : Int) (c43_5 : Int) (c43_6 : Int) (c43_7 : Int) (G : GH) : class_Charge.J7 M C s1 a2 t24 c43_0 c43_1 c43_2 c43_3 c43_4 c43_5 c43_6 c43_7 G = (bif t24 then some ([.c (.int .i64 0), .c (.int .i64 3)], G) else bif decide (s1 < 0) then class_Charge.J15 M C s1 a2 true c43_0 c43_1 c43_2 c43_3 c43_4 c43_5 c43_6 c43_7 G else class_Charge.J15 M C s1 a2 (decide (s1 > c43_1)) c43_0 c43_1 c43_2 c43_3 c43_4 c43_5 c43_6 c43_7 G) := (M.hj _ _ _).trans (by kernel_rfl)
theorem class_Charge.J15_eq (M : Mach) (C : Call) (s1 : Int) (a2 : Int) (t32 : Bool) (c43_0 : Int) (c43_1 : Int) (c43_2 : Int) (c43_3 : Int) (c43_4 : Int) (c43_5 : Int) (c43_6 : Int) (c43_7 : Int) (G : GH) : class_Charge.J15 M C s1 a2 t32 c43_0 c43_1 c43_2 c43_3 c43_4 c43_5 c43_6 c43_7 G = (bif t32 then some ([.c (.int .i64 0), .c (.int .i64 4)], G) else (C calc_Up.id [.c (.int .i64 (mx2 (mx2 s1 a2) c43_0))] G).bind fun qr_4 => (((qr_4.1[0]?).bind V1.c?).bind (Cell.asI .i64)).bind fun qx_5 => (((qr_4.1[1]?).bind V1.c?).bind Cell.asB).bind fun qb_6 => some ([.c (.int .i64 qx_5), .c (.int .i64 0)], qr_4.2)) := (M.hj _ _ _).trans (by kernel_rfl)
def class_Charge.f (M : Mach) (C : Call) (c0_0 : Int) (c0_1 : Int) (c0_2 : Int) (c0_3 : Int) (c0_4 : Int) (c0_5 : Int) (c0_6 : Int) (c0_7 : Int) (s1 : Int) (a2 : Int) (G : GH) : Option Res := (C calc_Log.id [.c (.int .i64 a2)] G).bind fun qr_1 => (((qr_1.1[0]?).bind V1.c?).bind (Cell.asI .i64)).bind fun qx_2 => (((qr_1.1[1]?).bind V1.c?).bind Cell.asB).bind fun qb_3 => bif (!qb_3) then class_Charge.J7 M C s1 a2 true c0_0 c0_1 c0_2 c0_3 c0_4 c0_5 c0_6 c0_7 qr_1.2 else class_Charge.J7 M C s1 a2 (decide (a2 > c0_1)) c0_0 c0_1 c0_2 c0_3 c0_4 c0_5 c0_6 c0_7 qr_1.2
theorem class_Charge.eq (M : Mach) (C : Call) (c0_0 : Int) (c0_1 : Int) (c0_2 : Int) (c0_3 : Int) (c0_4 : Int) (c0_5 : Int) (c0_6 : Int) (c0_7 : Int) (s1 : Int) (a2 : Int) (G : GH) : runF M C class_Charge.d [.agg [.int .i64 c0_0, .int .i64 c0_1, .int .i64 c0_2, .int .i64 c0_3, .int .i64 c0_4, .int .i64 c0_5, .int .i64 c0_6, .int .i64 c0_7], .c (.int .i64 s1), .c (.int .i64 a2)] G = class_Charge.f M C c0_0 c0_1 c0_2 c0_3 c0_4 c0_5 c0_6 c0_7 s1 a2 G := by kernel_rfl

/- 43 hodman/hodmanref1.Round -/
def hodmanref1_Round.c6 : DCode := (.cond (.t 11) (.seq (.region [⟨0, some 4, .move (.k (.c (.int .i64 0))), none⟩,
    ⟨1, some 5, .move (.k (.c (.bool false))), none⟩]) .ret) .skip)
def hodmanref1_Round.c18 : DCode := (.seq (.seq (.region [⟨0, some 12, .move (.t 0), none⟩,
    ⟨1, some 13, .move (.t 1), none⟩,
    ⟨2, some 14, .bin .rem .i64 (.t 12) (.t 13), none⟩,
    ⟨3, some 15, .cmp .eql .i64 (.t 14) (.k (.c (.int .i64 0))), none⟩]) (.cond (.t 15) (.seq (.region [⟨0, some 16, .move (.t 0), none⟩,
    ⟨1, some 4, .move (.t 16), none⟩,
    ⟨2, some 5, .move (.k (.c (.bool true))), none⟩]) .ret) .skip)) (.seq (.region [⟨0, some 17, .move (.t 0), none⟩,
    ⟨1, some 18, .move (.t 0), none⟩,
    ⟨2, some 19, .move (.t 1), none⟩,
    ⟨3, some 20, .bin .rem .i64 (.t 18) (.t 19), none⟩,
    ⟨4, some 21, .bin .sub .i64 (.t 17) (.t 20), none⟩,
    ⟨5, some 22, .move (.t 1), none⟩,
    ⟨6, some 23, .call 61 [.t 21, .t 22] [.c (.int .i64), .c (.bool)], none⟩,
    ⟨7, some 24, .ext 23 0, none⟩,
    ⟨8, some 25, .ext 23 1, none⟩,
    ⟨9, some 4, .move (.t 24), none⟩,
    ⟨10, some 5, .move (.t 25), none⟩]) .ret))
def hodmanref1_Round.d : DFn := { ntmps := 26, res := [.t 4, .t 5], body := (.seq (.region [⟨0, some 4, .move (.k (.c (.int .i64 0))), none⟩,
    ⟨1, some 5, .move (.k (.c (.bool false))), none⟩]) (.seq (.seq (.region [⟨0, some 6, .move (.t 0), none⟩,
    ⟨1, some 7, .cmp .lss .i64 (.t 6) (.k (.c (.int .i64 0))), none⟩,
    ⟨2, some 8, .move (.t 7), none⟩,
    ⟨3, some 9, .move (.t 1), some (8, false)⟩,
    ⟨4, some 10, .cmp .lss .i64 (.t 9) (.k (.c (.int .i64 1))), some (8, false)⟩,
    ⟨5, some 11, .pick (.t 8) (.k (.c (.bool true))) (.t 10), none⟩]) (.cut [0, 1, 11] hodmanref1_Round.c6)) hodmanref1_Round.c18)) }
def hodmanref1_Round.k18 (M : Mach) (C : Call) : Kont := execC M.j C (M.ag C) hodmanref1_Round.c18 ({ exits := [], ret := retK hodmanref1_Round.d } : Env) (retK hodmanref1_Round.d)
def hodmanref1_Round.J6 (M : Mach) (C : Call) (v0 : Int) (to1 : Int) (t11 : Bool) (G : GH) : Option Res := M.j (execC M.j C (M.ag C) hodmanref1_Round.c6 ({ exits := [], ret := retK hodmanref1_Round.d } : Env) (hodmanref1_Round.k18 M C)) [.v (.c (.int .i64 v0)), .v (.c (.int .i64 to1)), .und, .und, .und, .und, .und, .und, .und, .und, .und, .v (.c (.bool t11)), .und, .und, .und, .und, .und, .und, .und, .und, .und, .und, .und, .und, .und, .und] G
theorem hodmanref1_Round.J6_eq (M : Mach) (C : Call) (v0 : Int) (to1 : Int) (t11 : Bool) (G : GH) : hodmanref1_Round.J6 M C v0 to1 t11 G = (bif t11 then some ([.c (.int .i64 0), .c (.bool false)], G) else (binD .rem .i64 v0 to1).bind fun qx_1 => bif decide (qx_1 = 0) then some ([.c (.int .i64 v0), .c (.bool true)], G) else (binD .rem .i64 v0 to1).bind fun qx_2 => (C hodmanref1_Add.id [.c (.int .i64 (IntKind.i64.wrap (v0 - qx_2))), .c (.int .i64 to1)] G).bind fun qr_3 => (((qr_3.1[0]?).bind V1.c?).bind (Cell.asI .i64)).bind fun qx_4 => (((qr_3.1[1]?).bind V1.c?).bind Cell.asB).bind fun qb_5 => some ([.c (.int .i64 qx_4), .c (.bool qb_5)], qr_3.2)) := (M.hj _ _ _).trans (by kernel_rfl)
def hodmanref1_Round.f (M : Mach) (C : Call) (v0 : Int) (to1 : Int) (G : GH) : Option Res := bif decide (v0 < 0) then hodmanref1_Round.J6 M C v0 to1 true G else hodmanref1_Round.J6 M C v0 to1 (decide (to1 < 1)) G
theorem hodmanref1_Round.eq (M : Mach) (C : Call) (v0 : Int) (to1 : Int) (G : GH) : runF M C hodmanref1_Round.d [.c (.int .i64 v0), .c (.int .i64 to1)] G = hodmanref1_Round.f M C v0 to1 G := by kernel_rfl
end Go.Proofs.D
