/- Texts of the proof (T1); no condition. -/
import Derived.Test.YtdanddamihficaaSameFailsa
import Derived.KernelRfl
set_option linter.unusedSimpArgs false
set_option linter.unusedVariables false
set_option linter.unusedVariables false
set_option maxRecDepth 100000
namespace Go.Proofs.D
open Go
/- 39 (*hodman/same.reader).does -/
def same_reader_does.c26 : DCode := (.cond (.t 100) (.region [⟨0, some 101, .move (.t 10), none⟩,
    ⟨1, some 102, .move (.t 10), none⟩,
    ⟨2, some 103, .nilck (.t 102), none⟩,
    ⟨3, some 104, .faddr 103 2, none⟩,
    ⟨4, some 105, .ldG 104 (.c (.sl 1)), none⟩,
    ⟨5, some 106, .faddr 4 4, none⟩,
    ⟨6, some 107, .ldL 106 126 (.c (.int .i64)), none⟩,
    ⟨7, some 108, .bslice 1 1 [.int .i64 0] [(0, 1, .t 107)], none⟩,
    ⟨8, some 109, .app (.t 105) (.t 108) 1 8, none⟩,
    ⟨9, some 110, .nilck (.t 101), none⟩,
    ⟨10, some 111, .faddr 110 2, none⟩,
    ⟨11, none, .stG 111 (.t 109) 1, none⟩]) .skip)
def same_reader_does.c50 : DCode := (.cond (.t 17) (.region [⟨0, some 20, .move (.t 0), none⟩,
    ⟨1, some 21, .nilck (.t 20), none⟩,
    ⟨2, some 22, .faddr 21 8, none⟩,
    ⟨3, some 23, .ldG 22 (.c (.map)), none⟩,
    ⟨4, some 24, .faddr 5 1, none⟩,
    ⟨5, some 25, .ldL 24 127 (.c (.int .i64)), none⟩,
    ⟨6, some 26, .build [.int .i64 0, .int .i64 0] [(0, 1, .t 25)], none⟩,
    ⟨7, some 27, .move (.t 0), none⟩,
    ⟨8, some 28, .ldL 4 126 (.agg [.int .i64, .int .i64, .int .i64, .int .i64, .int .i64, .int .u8]), none⟩,
    ⟨9, some 29, .call 56 [.t 27, .t 28] [.c (.int .i64)], none⟩,
    ⟨9999, none, .reG 23 22 (.c (.map)), none⟩,
    ⟨10, some 30, .build [.int .i64 0, .int .i64 0, .sl 1 0 0 0] [(0, 1, .t 29)], none⟩,
    ⟨11, some 31, .newv (.t 30) 3, none⟩,
    ⟨12, none, .mupd (.agg [.int .i64, .int .i64]) (.t 23) (.t 26) (.t 31), none⟩]) (.seq (.region [⟨0, some 33, .cmp .eql .i64 (.t 16) (.k (.c (.int .i64 2))), none⟩,
    ⟨1, some 32, .move (.t 33), none⟩]) (.cond (.t 32) (.seq (.region [⟨0, some 34, .move (.t 0), none⟩,
    ⟨1, some 35, .ldL 4 126 (.agg [.int .i64, .int .i64, .int .i64, .int .i64, .int .i64, .int .u8]), none⟩,
    ⟨2, some 36, .call 56 [.t 34, .t 35] [.c (.int .i64)], none⟩,
    ⟨3, some 8, .move (.t 36), none⟩]) (.region [⟨0, some 37, .move (.t 0), none⟩,
    ⟨1, some 38, .nilck (.t 37), none⟩,
    ⟨2, some 39, .faddr 38 8, none⟩,
    ⟨3, some 40, .ldG 39 (.c (.map)), none⟩,
    ⟨4, some 41, .faddr 5 1, none⟩,
    ⟨5, some 42, .ldL 41 127 (.c (.int .i64)), none⟩,
    ⟨6, some 43, .build [.int .i64 0, .int .i64 0] [(0, 1, .t 42)], none⟩,
    ⟨7, some 44, .move (.t 8), none⟩,
    ⟨8, some 45, .move (.t 8), none⟩,
    ⟨9, some 46, .build [.int .i64 0, .int .i64 0, .sl 1 0 0 0] [(0, 1, .t 44), (1, 1, .t 45)], none⟩,
    ⟨10, some 47, .newv (.t 46) 3, none⟩,
    ⟨11, none, .mupd (.agg [.int .i64, .int .i64]) (.t 40) (.t 43) (.t 47), none⟩])) (.seq (.region [⟨0, some 49, .cmp .eql .i64 (.t 16) (.k (.c (.int .i64 4))), none⟩,
    ⟨1, some 48, .move (.t 49), none⟩]) (.cond (.t 48) (.seq (.region [⟨0, some 50, .move (.t 0), none⟩,
    ⟨1, some 51, .nilck (.t 50), none⟩,
    ⟨2, some 52, .faddr 51 8, none⟩,
    ⟨3, some 53, .ldG 52 (.c (.map)), none⟩,
    ⟨4, some 54, .ldL 7 129 (.agg [.int .i64, .int .i64]), none⟩,
    ⟨5, some 55, .lkup (.agg [.int .i64, .int .i64]) (.t 53) (.t 54) (.c (.ptr 0 0)) (.c (.ptr)) false, none⟩,
    ⟨6, some 56, .move (.t 0), none⟩,
    ⟨7, some 57, .ldL 4 126 (.agg [.int .i64, .int .i64, .int .i64, .int .i64, .int .i64, .int .u8]), none⟩,
    ⟨8, some 58, .call 56 [.t 56, .t 57] [.c (.int .i64)], none⟩,
    ⟨9999, none, .reG 53 52 (.c (.map)), none⟩,
    ⟨9999, none, .reK 55 (.agg [.int .i64, .int .i64]) (.t 53) (.t 54) (.c (.ptr 0 0)) (.c (.ptr)) false, none⟩,
    ⟨9, some 59, .call 57 [.t 55, .t 58] [.c (.ptr)], none⟩,
    ⟨10, some 9, .move (.t 59), none⟩]) (.seq (.region [⟨0, some 60, .move (.t 0), none⟩,
    ⟨1, some 61, .nilck (.t 60), none⟩,
    ⟨2, some 62, .faddr 61 8, none⟩,
    ⟨3, some 63, .ldG 62 (.c (.map)), none⟩,
    ⟨4, some 64, .ldL 7 129 (.agg [.int .i64, .int .i64]), none⟩,
    ⟨5, none, .del (.agg [.int .i64, .int .i64]) (.t 63) (.t 64), none⟩]) (.region [⟨0, some 65, .move (.t 0), none⟩,
    ⟨1, some 66, .nilck (.t 65), none⟩,
    ⟨2, some 67, .faddr 66 8, none⟩,
    ⟨3, some 68, .ldG 67 (.c (.map)), none⟩,
    ⟨4, some 69, .faddr 5 1, none⟩,
    ⟨5, some 70, .ldL 69 127 (.c (.int .i64)), none⟩,
    ⟨6, some 71, .build [.int .i64 0, .int .i64 0] [(0, 1, .t 70)], none⟩,
    ⟨7, some 72, .move (.t 9), none⟩,
    ⟨8, none, .mupd (.agg [.int .i64, .int .i64]) (.t 68) (.t 71) (.t 72), none⟩]))) (.seq (.region [⟨0, some 74, .cmp .eql .i64 (.t 16) (.k (.c (.int .i64 5))), none⟩,
    ⟨1, some 73, .move (.t 74), none⟩]) (.cond (.t 73) (.region [⟨0, some 75, .move (.t 0), none⟩,
    ⟨1, some 76, .nilck (.t 75), none⟩,
    ⟨2, some 77, .faddr 76 8, none⟩,
    ⟨3, some 78, .ldG 77 (.c (.map)), none⟩,
    ⟨4, some 79, .ldL 7 129 (.agg [.int .i64, .int .i64]), none⟩,
    ⟨5, none, .del (.agg [.int .i64, .int .i64]) (.t 78) (.t 79), none⟩]) (.seq (.region [⟨0, some 81, .cmp .eql .i64 (.t 16) (.k (.c (.int .i64 8))), none⟩,
    ⟨1, some 80, .move (.t 81), none⟩]) (.cond (.t 80) (.seq (.region [⟨0, some 83, .move (.t 0), none⟩,
    ⟨1, some 84, .nilck (.t 83), none⟩,
    ⟨2, some 85, .faddr 84 8, none⟩,
    ⟨3, some 86, .ldG 85 (.c (.map)), none⟩,
    ⟨4, some 87, .ldL 7 129 (.agg [.int .i64, .int .i64]), none⟩,
    ⟨5, some 88, .lkup (.agg [.int .i64, .int .i64]) (.t 86) (.t 87) (.c (.ptr 0 0)) (.c (.ptr)) true, none⟩,
    ⟨6, some 82, .move (.t 88), none⟩,
    ⟨7, some 89, .ext 82 0, none⟩,
    ⟨8, some 90, .ext 82 1, none⟩,
    ⟨9, some 10, .move (.t 89), none⟩,
    ⟨10, some 11, .move (.t 90), none⟩]) (.seq (.region [⟨0, some 91, .move (.t 11), none⟩,
    ⟨1, some 92, .move (.t 91), none⟩,
    ⟨2, some 93, .move (.t 0), some (92, true)⟩,
    ⟨3, some 94, .faddr 4 1, some (92, true)⟩,
    ⟨4, some 95, .ldL 94 126 (.c (.int .i64)), some (92, true)⟩,
    ⟨5, some 96, .faddr 4 4, some (92, true)⟩,
    ⟨6, some 97, .ldL 96 126 (.c (.int .i64)), some (92, true)⟩,
    ⟨7, some 98, .call 58 [.t 93, .t 95, .t 97] [.c (.bool)], some (92, true)⟩,
    ⟨8, some 99, .not (.t 98), some (92, true)⟩,
    ⟨9, some 100, .pick (.t 92) (.t 99) (.k (.c (.bool false))), none⟩]) (.cut [4, 5, 6, 10, 100, 126, 127, 128] same_reader_does.c26))) (.seq (.region [⟨0, some 113, .cmp .eql .i64 (.t 16) (.k (.c (.int .i64 7))), none⟩,
    ⟨1, some 112, .move (.t 113), none⟩]) (.cond (.t 112) (.seq (.region [⟨0, some 114, .move (.t 0), none⟩,
    ⟨1, some 115, .faddr 4 1, none⟩,
    ⟨2, some 116, .ldL 115 126 (.c (.int .i64)), none⟩,
    ⟨3, some 117, .faddr 4 4, none⟩,
    ⟨4, some 118, .ldL 117 126 (.c (.int .i64)), none⟩,
    ⟨5, some 119, .call 58 [.t 114, .t 116, .t 118] [.c (.bool)], none⟩,
    ⟨6, some 120, .not (.t 119), none⟩]) (.cond (.t 120) (.region [⟨0, some 121, .faddr 5 3, none⟩,
    ⟨1, none, .stL 121 127 (.k (.c (.int .u8 0))) 1, none⟩]) .skip)) (.seq (.region [⟨0, some 123, .cmp .eql .i64 (.t 16) (.k (.c (.int .i64 10))), none⟩,
    ⟨1, some 122, .move (.t 123), none⟩]) (.cond (.t 122) (.region [⟨0, some 124, .faddr 5 7, none⟩,
    ⟨1, none, .stL 124 127 (.k (.c (.int .i64 0))) 1, none⟩]) .skip)))))))))))))
def same_reader_does.c56 : DCode := (.seq (.region [⟨0, some 125, .ldL 5 127 (.agg [.int .i64, .int .i64, .int .i64, .int .u8, .int .i64, .int .i64, .int .i64, .int .i64]), none⟩,
    ⟨1, none, .stL 6 128 (.t 125) 8, none⟩]) .ret)
def same_reader_does.d : DFn := { ntmps := 130, res := [.box 6 (some 8)], body := (.seq (.region [⟨0, some 4, .boxv 126 [12, 15, 94, 96, 106, 115, 117] (.t 1) 6, none⟩,
    ⟨1, some 5, .boxv 127 [24, 41, 69, 121, 124] (.t 2) 8, none⟩,
    ⟨2, some 6, .boxz 128 [] [.int .i64 0, .int .i64 0, .int .i64 0, .int .u8 0, .int .i64 0, .int .i64 0, .int .i64 0, .int .i64 0], none⟩]) (.seq (.region [⟨0, some 12, .faddr 4 1, none⟩,
    ⟨1, some 13, .ldL 12 126 (.c (.int .i64)), none⟩,
    ⟨2, some 14, .build [.int .i64 0, .int .i64 0] [(0, 1, .t 13)], none⟩,
    ⟨3, some 7, .boxz 129 [] [.int .i64 0, .int .i64 0], none⟩,
    ⟨4, none, .stL 7 129 (.t 14) 2, none⟩]) (.seq (.seq (.region [⟨0, some 15, .faddr 4 0, none⟩,
    ⟨1, some 16, .ldL 15 126 (.c (.int .i64)), none⟩]) (.block 0 (.seq (.seq (.region [⟨0, some 18, .cmp .eql .i64 (.t 16) (.k (.c (.int .i64 1))), none⟩,
    ⟨1, some 17, .move (.t 18), none⟩]) (.cond (.t 17) .skip (.region [⟨0, some 19, .cmp .eql .i64 (.t 16) (.k (.c (.int .i64 3))), none⟩,
    ⟨1, some 17, .move (.t 19), none⟩]))) (.cut [0, 4, 5, 6, 7, 16, 17, 126, 127, 128, 129] same_reader_does.c50)))) (.cut [5, 6, 127, 128] same_reader_does.c56)))) }
def same_reader_does.k56 (M : Mach) (C : Call) : Kont := execC M.j C (M.ag C) (.cut [5, 6, 127, 128] same_reader_does.c56) ({ exits := [], ret := retK same_reader_does.d } : Env) (retK same_reader_does.d)
def same_reader_does.e52 (M : Mach) (C : Call) : Env := { exits := (0, (same_reader_does.k56 M C)) :: (({ exits := [], ret := retK same_reader_does.d } : Env)).exits, ret := (({ exits := [], ret := retK same_reader_does.d } : Env)).ret }
def same_reader_does.J50 (M : Mach) (C : Call) (r0i : Nat) (r0o : Nat) (t16 : Int) (t17 : Bool) (o126_0 : Int) (o126_1 : Int) (o126_2 : Int) (o126_3 : Int) (o126_4 : Int) (o126_5 : Int) (a127_0 : Int) (a127_1 : Int) (a127_2 : Int) (a127_3 : Int) (a127_4 : Int) (a127_5 : Int) (a127_6 : Int) (a127_7 : Int) (x128_0 : Int) (x128_1 : Int) (x128_2 : Int) (x128_3 : Int) (x128_4 : Int) (x128_5 : Int) (x128_6 : Int) (x128_7 : Int) (old129_0 : Int) (old129_1 : Int) (G : GH) : Option Res := M.j (execC M.j C (M.ag C) same_reader_does.c50 (same_reader_does.e52 M C) (same_reader_does.k56 M C)) [.v (.c (.ptr r0i r0o)), .und, .und, .und, .ref 126 0, .ref 127 0, .ref 128 0, .ref 129 0, .und, .und, .und, .und, .und, .und, .und, .und, .v (.c (.int .i64 t16)), .v (.c (.bool t17)), .und, .und, .und, .und, .und, .und, .und, .und, .und, .und, .und, .und, .und, .und, .und, .und, .und, .und, .und, .und, .und, .und, .und, .und, .und, .und, .und, .und, .und, .und, .und, .und, .und, .und, .und, .und, .und, .und, .und, .und, .und, .und, .und, .und, .und, .und, .und, .und, .und, .und, .und, .und, .und, .und, .und, .und, .und, .und, .und, .und, .und, .und, .und, .und, .und, .und, .und, .und, .und, .und, .und, .und, .und, .und, .und, .und, .und, .und, .und, .und, .und, .und, .und, .und, .und, .und, .und, .und, .und, .und, .und, .und, .und, .und, .und, .und, .und, .und, .und, .und, .und, .und, .und, .und, .und, .und, .und, .und, .box [.int .i64 o126_0, .int .i64 o126_1, .int .i64 o126_2, .int .i64 o126_3, .int .i64 o126_4, .int .u8 o126_5], .box [.int .i64 a127_0, .int .i64 a127_1, .int .i64 a127_2, .int .u8 a127_3, .int .i64 a127_4, .int .i64 a127_5, .int .i64 a127_6, .int .i64 a127_7], .box [.int .i64 x128_0, .int .i64 x128_1, .int .i64 x128_2, .int .u8 x128_3, .int .i64 x128_4, .int .i64 x128_5, .int .i64 x128_6, .int .i64 x128_7], .box [.int .i64 old129_0, .int .i64 old129_1]] G
def same_reader_does.J56 (M : Mach) (C : Call) (a127_0 : Int) (a127_1 : Int) (a127_2 : Int) (a127_3 : Int) (a127_4 : Int) (a127_5 : Int) (a127_6 : Int) (a127_7 : Int) (x128_0 : Int) (x128_1 : Int) (x128_2 : Int) (x128_3 : Int) (x128_4 : Int) (x128_5 : Int) (x128_6 : Int) (x128_7 : Int) (G : GH) : Option Res := M.j (execC M.j C (M.ag C) same_reader_does.c56 ({ exits := [], ret := retK same_reader_does.d } : Env) (retK same_reader_does.d)) [.und, .und, .und, .und, .und, .ref 127 0, .ref 128 0, .und, .und, .und, .und, .und, .und, .und, .und, .und, .und, .und, .und, .und, .und, .und, .und, .und, .und, .und, .und, .und, .und, .und, .und, .und, .und, .und, .und, .und, .und, .und, .und, .und, .und, .und, .und, .und, .und, .und, .und, .und, .und, .und, .und, .und, .und, .und, .und, .und, .und, .und, .und, .und, .und, .und, .und, .und, .und, .und, .und, .und, .und, .und, .und, .und, .und, .und, .und, .und, .und, .und, .und, .und, .und, .und, .und, .und, .und, .und, .und, .und, .und, .und, .und, .und, .und, .und, .und, .und, .und, .und, .und, .und, .und, .und, .und, .und, .und, .und, .und, .und, .und, .und, .und, .und, .und, .und, .und, .und, .und, .und, .und, .und, .und, .und, .und, .und, .und, .und, .und, .box [.int .i64 a127_0, .int .i64 a127_1, .int .i64 a127_2, .int .u8 a127_3, .int .i64 a127_4, .int .i64 a127_5, .int .i64 a127_6, .int .i64 a127_7], .box [.int .i64 x128_0, .int .i64 x128_1, .int .i64 x128_2, .int .u8 x128_3, .int .i64 x128_4, .int .i64 x128_5, .int .i64 x128_6, .int .i64 x128_7], .und] G
def same_reader_does.J26 (M : Mach) (C : Call) (b10i : Nat) (b10o : Nat) (t100 : Bool) (o126_0 : Int) (o126_1 : Int) (o126_2 : Int) (o126_3 : Int) (o126_4 : Int) (o126_5 : Int) (a127_0 : Int) (a127_1 : Int) (a127_2 : Int) (a127_3 : Int) (a127_4 : Int) (a127_5 : Int) (a127_6 : Int) (a127_7 : Int) (x128_0 : Int) (x128_1 : Int) (x128_2 : Int) (x128_3 : Int) (x128_4 : Int) (x128_5 : Int) (x128_6 : Int) (x128_7 : Int) (G : GH) : Option Res := M.j (execC M.j C (M.ag C) same_reader_does.c26 (same_reader_does.e52 M C) (same_reader_does.k56 M C)) [.und, .und, .und, .und, .ref 126 0, .ref 127 0, .ref 128 0, .und, .und, .und, .v (.c (.ptr b10i b10o)), .und, .und, .und, .und, .und, .und, .und, .und, .und, .und, .und, .und, .und, .und, .und, .und, .und, .und, .und, .und, .und, .und, .und, .und, .und, .und, .und, .und, .und, .und, .und, .und, .und, .und, .und, .und, .und, .und, .und, .und, .und, .und, .und, .und, .und, .und, .und, .und, .und, .und, .und, .und, .und, .und, .und, .und, .und, .und, .und, .und, .und, .und, .und, .und, .und, .und, .und, .und, .und, .und, .und, .und, .und, .und, .und, .und, .und, .und, .und, .und, .und, .und, .und, .und, .und, .und, .und, .und, .und, .v (.c (.bool t100)), .und, .und, .und, .und, .und, .und, .und, .und, .und, .und, .und, .und, .und, .und, .und, .und, .und, .und, .und, .und, .und, .und, .und, .und, .und, .box [.int .i64 o126_0, .int .i64 o126_1, .int .i64 o126_2, .int .i64 o126_3, .int .i64 o126_4, .int .u8 o126_5], .box [.int .i64 a127_0, .int .i64 a127_1, .int .i64 a127_2, .int .u8 a127_3, .int .i64 a127_4, .int .i64 a127_5, .int .i64 a127_6, .int .i64 a127_7], .box [.int .i64 x128_0, .int .i64 x128_1, .int .i64 x128_2, .int .u8 x128_3, .int .i64 x128_4, .int .i64 x128_5, .int .i64 x128_6, .int .i64 x128_7], .und] G
theorem same_reader_does.J50_eq (M : Mach) (C : Call) (r0i : Nat) (r0o : Nat) (t16 : Int) (t17 : Bool) (o126_0 : Int) (o126_1 : Int) (o126_2 : Int) (o126_3 : Int) (o126_4 : Int) (o126_5 : Int) (a127_0 : Int) (a127_1 : Int) (a127_2 : Int) (a127_3 : Int) (a127_4 : Int) (a127_5 : Int) (a127_6 : Int) (a127_7 : Int) (x128_0 : Int) (x128_1 : Int) (x128_2 : Int) (x128_3 : Int) (x128_4 : Int) (x128_5 : Int) (x128_6 : Int) (x128_7 : Int) (old129_0 : Int) (old129_1 : Int) (G : GH) : same_reader_does.J50 M C r0i r0o t16 t17 o126_0 o126_1 o126_2 o126_3 o126_4 o126_5 a127_0 a127_1 a127_2 a127_3 a127_4 a127_5 a127_6 a127_7 x128_0 x128_1 x128_2 x128_3 x128_4 x128_5 x128_6 x128_7 old129_0 old129_1 G = (bif t17 then guardK (!Nat.beq r0i 0) (((G.ld r0i (r0o + 8)).bind Cell.asM).bind fun qm_1 => (C same_reader_charge.id [.c (.ptr r0i r0o), .agg [.int .i64 o126_0, .int .i64 o126_1, .int .i64 o126_2, .int .i64 o126_3, .int .i64 o126_4, .int .u8 o126_5]] G).bind fun qr_2 => (((qr_2.1[0]?).bind V1.c?).bind (Cell.asI .i64)).bind fun qx_3 => ((qr_2.2.ld r0i (r0o + 8)).bind Cell.asM).bind fun qm_4 => guardK (decide ((.c (.map qm_1) : V1) = .c (.map qm_4))) (let qG_5 := qr_2.2.alloc (.row [.int .i64 qx_3, .int .i64 0, .sl 1 0 0 0] false); (qG_5.ents (.agg [.int .i64, .int .i64]) qm_1).bind fun qes_6 => let qG_7 := qG_5.set qm_1 (some (.map (.agg [.int .i64, .int .i64]) (mapPut qes_6 (.agg [.int .i64 a127_1, .int .i64 0]) (.c (.ptr qr_2.2.next 0))))); same_reader_does.J56 M C a127_0 a127_1 a127_2 a127_3 a127_4 a127_5 a127_6 a127_7 x128_0 x128_1 x128_2 x128_3 x128_4 x128_5 x128_6 x128_7 qG_7)) else bif decide (t16 = 2) then (C same_reader_charge.id [.c (.ptr r0i r0o), .agg [.int .i64 o126_0, .int .i64 o126_1, .int .i64 o126_2, .int .i64 o126_3, .int .i64 o126_4, .int .u8 o126_5]] G).bind fun qr_8 => (((qr_8.1[0]?).bind V1.c?).bind (Cell.asI .i64)).bind fun qx_9 => guardK (!Nat.beq r0i 0) (((qr_8.2.ld r0i (r0o + 8)).bind Cell.asM).bind fun qm_10 => let qG_11 := qr_8.2.alloc (.row [.int .i64 qx_9, .int .i64 qx_9, .sl 1 0 0 0] false); (qG_11.ents (.agg [.int .i64, .int .i64]) qm_10).bind fun qes_12 => let qG_13 := qG_11.set qm_10 (some (.map (.agg [.int .i64, .int .i64]) (mapPut qes_12 (.agg [.int .i64 a127_1, .int .i64 0]) (.c (.ptr qr_8.2.next 0))))); same_reader_does.J56 M C a127_0 a127_1 a127_2 a127_3 a127_4 a127_5 a127_6 a127_7 x128_0 x128_1 x128_2 x128_3 x128_4 x128_5 x128_6 x128_7 qG_13) else bif decide (t16 = 4) then guardK (!Nat.beq r0i 0) (((G.ld r0i (r0o + 8)).bind Cell.asM).bind fun qm_14 => (G.ents0 (.agg [.int .i64, .int .i64]) qm_14).bind fun qes_15 => ((((some ((mapGet qes_15 (.agg [.int .i64 old129_0, .int .i64 old129_1])).getD (.c (.ptr 0 0))))).bind V1.c?).bind Cell.asP).bind fun qp_16 => (C same_reader_charge.id [.c (.ptr r0i r0o), .agg [.int .i64 o126_0, .int .i64 o126_1, .int .i64 o126_2, .int .i64 o126_3, .int .i64 o126_4, .int .u8 o126_5]] G).bind fun qr_17 => (((qr_17.1[0]?).bind V1.c?).bind (Cell.asI .i64)).bind fun qx_18 => ((qr_17.2.ld r0i (r0o + 8)).bind Cell.asM).bind fun qm_19 => guardK (decide ((.c (.map qm_14) : V1) = .c (.map qm_19))) ((qr_17.2.ents0 (.agg [.int .i64, .int .i64]) qm_14).bind fun qes_20 => ((((some ((mapGet qes_20 (.agg [.int .i64 old129_0, .int .i64 old129_1])).getD (.c (.ptr 0 0))))).bind V1.c?).bind Cell.asP).bind fun qp_21 => guardK (decide ((.c (.ptr qp_16.1 qp_16.2) : V1) = .c (.ptr qp_21.1 qp_21.2))) ((C same_moved.id [.c (.ptr qp_16.1 qp_16.2), .c (.int .i64 qx_18)] qr_17.2).bind fun qr_22 => (((qr_22.1[0]?).bind V1.c?).bind Cell.asP).bind fun qp_23 => guardK (!Nat.beq r0i 0) (((qr_22.2.ld r0i (r0o + 8)).bind Cell.asM).bind fun qm_24 => (qr_22.2.ents (.agg [.int .i64, .int .i64]) qm_24).bind fun qes_25 => let qG_26 := qr_22.2.set qm_24 (some (.map (.agg [.int .i64, .int .i64]) (mapDel qes_25 (.agg [.int .i64 old129_0, .int .i64 old129_1])))); guardK (!Nat.beq r0i 0) (((qG_26.ld r0i (r0o + 8)).bind Cell.asM).bind fun qm_27 => (qG_26.ents (.agg [.int .i64, .int .i64]) qm_27).bind fun qes_28 => let qG_29 := qG_26.set qm_27 (some (.map (.agg [.int .i64, .int .i64]) (mapPut qes_28 (.agg [.int .i64 a127_1, .int .i64 0]) (.c (.ptr qp_23.1 qp_23.2))))); same_reader_does.J56 M C a127_0 a127_1 a127_2 a127_3 a127_4 a127_5 a127_6 a127_7 x128_0 x128_1 x128_2 x128_3 x128_4 x128_5 x128_6 x128_7 qG_29))))) else bif decide (t16 = 5) then guardK (!Nat.beq r0i 0) (((G.ld r0i (r0o + 8)).bind Cell.asM).bind fun qm_30 => (G.ents (.agg [.int .i64, .int .i64]) qm_30).bind fun qes_31 => let qG_32 := G.set qm_30 (some (.map (.agg [.int .i64, .int .i64]) (mapDel qes_31 (.agg [.int .i64 old129_0, .int .i64 old129_1])))); same_reader_does.J56 M C a127_0 a127_1 a127_2 a127_3 a127_4 a127_5 a127_6 a127_7 x128_0 x128_1 x128_2 x128_3 x128_4 x128_5 x128_6 x128_7 qG_32) else bif decide (t16 = 8) then guardK (!Nat.beq r0i 0) (((G.ld r0i (r0o + 8)).bind Cell.asM).bind fun qm_33 => (G.ents0 (.agg [.int .i64, .int .i64]) qm_33).bind fun qes_34 => ((((some ((mapGet qes_34 (.agg [.int .i64 old129_0, .int .i64 old129_1])).getD (.c (.ptr 0 0))))).bind V1.c?).bind Cell.asP).bind fun qp_35 => bif (mapGet qes_34 (.agg [.int .i64 old129_0, .int .i64 old129_1])).isSome then (C same_reader_knows.id [.c (.ptr r0i r0o), .c (.int .i64 o126_1), .c (.int .i64 o126_4)] G).bind fun qr_36 => (((qr_36.1[0]?).bind V1.c?).bind Cell.asB).bind fun qb_37 => same_reader_does.J26 M C qp_35.1 qp_35.2 (!qb_37) o126_0 o126_1 o126_2 o126_3 o126_4 o126_5 a127_0 a127_1 a127_2 a127_3 a127_4 a127_5 a127_6 a127_7 x128_0 x128_1 x128_2 x128_3 x128_4 x128_5 x128_6 x128_7 qr_36.2 else same_reader_does.J26 M C qp_35.1 qp_35.2 false o126_0 o126_1 o126_2 o126_3 o126_4 o126_5 a127_0 a127_1 a127_2 a127_3 a127_4 a127_5 a127_6 a127_7 x128_0 x128_1 x128_2 x128_3 x128_4 x128_5 x128_6 x128_7 G) else bif decide (t16 = 7) then (C same_reader_knows.id [.c (.ptr r0i r0o), .c (.int .i64 o126_1), .c (.int .i64 o126_4)] G).bind fun qr_38 => (((qr_38.1[0]?).bind V1.c?).bind Cell.asB).bind fun qb_39 => bif (!qb_39) then same_reader_does.J56 M C a127_0 a127_1 a127_2 0 a127_4 a127_5 a127_6 a127_7 x128_0 x128_1 x128_2 x128_3 x128_4 x128_5 x128_6 x128_7 qr_38.2 else same_reader_does.J56 M C a127_0 a127_1 a127_2 a127_3 a127_4 a127_5 a127_6 a127_7 x128_0 x128_1 x128_2 x128_3 x128_4 x128_5 x128_6 x128_7 qr_38.2 else bif decide (t16 = 10) then same_reader_does.J56 M C a127_0 a127_1 a127_2 a127_3 a127_4 a127_5 a127_6 0 x128_0 x128_1 x128_2 x128_3 x128_4 x128_5 x128_6 x128_7 G else same_reader_does.J56 M C a127_0 a127_1 a127_2 a127_3 a127_4 a127_5 a127_6 a127_7 x128_0 x128_1 x128_2 x128_3 x128_4 x128_5 x128_6 x128_7 G) := (M.hj _ _ _).trans (by kernel_rfl)
theorem same_reader_does.J56_eq (M : Mach) (C : Call) (a127_0 : Int) (a127_1 : Int) (a127_2 : Int) (a127_3 : Int) (a127_4 : Int) (a127_5 : Int) (a127_6 : Int) (a127_7 : Int) (x128_0 : Int) (x128_1 : Int) (x128_2 : Int) (x128_3 : Int) (x128_4 : Int) (x128_5 : Int) (x128_6 : Int) (x128_7 : Int) (G : GH) : same_reader_does.J56 M C a127_0 a127_1 a127_2 a127_3 a127_4 a127_5 a127_6 a127_7 x128_0 x128_1 x128_2 x128_3 x128_4 x128_5 x128_6 x128_7 G = (some ([.agg [.int .i64 a127_0, .int .i64 a127_1, .int .i64 a127_2, .int .u8 a127_3, .int .i64 a127_4, .int .i64 a127_5, .int .i64 a127_6, .int .i64 a127_7]], G)) := (M.hj _ _ _).trans (by kernel_rfl)
theorem same_reader_does.J26_eq (M : Mach) (C : Call) (b10i : Nat) (b10o : Nat) (t100 : Bool) (o126_0 : Int) (o126_1 : Int) (o126_2 : Int) (o126_3 : Int) (o126_4 : Int) (o126_5 : Int) (a127_0 : Int) (a127_1 : Int) (a127_2 : Int) (a127_3 : Int) (a127_4 : Int) (a127_5 : Int) (a127_6 : Int) (a127_7 : Int) (x128_0 : Int) (x128_1 : Int) (x128_2 : Int) (x128_3 : Int) (x128_4 : Int) (x128_5 : Int) (x128_6 : Int) (x128_7 : Int) (G : GH) : same_reader_does.J26 M C b10i b10o t100 o126_0 o126_1 o126_2 o126_3 o126_4 o126_5 a127_0 a127_1 a127_2 a127_3 a127_4 a127_5 a127_6 a127_7 x128_0 x128_1 x128_2 x128_3 x128_4 x128_5 x128_6 x128_7 G = (bif t100 then guardK (!Nat.beq b10i 0) (((G.ld b10i (b10o + 2)).bind (Cell.asS 1)).bind fun qs_40 => let qG_41 := G.alloc (.row [.int .i64 o126_4] false); (if 1 = 0 then some [] else qG_41.lds G.next 0 (1 * 1)).bind fun qnew_42 => guardK (decide (qs_40.2.2 + 1 ≤ most)) ((qG_41.app qs_40.1 qs_40.2.1 qs_40.2.2 1 1 qnew_42).bind fun qp_43 => guardK (!Nat.beq b10i 0) ((qp_43.2.2.sts b10i (b10o + 2) [.sl 1 qp_43.1 qp_43.2.1 (qs_40.2.2 + 1)]).bind fun qG_44 => same_reader_does.J56 M C a127_0 a127_1 a127_2 a127_3 a127_4 a127_5 a127_6 a127_7 x128_0 x128_1 x128_2 x128_3 x128_4 x128_5 x128_6 x128_7 qG_44))) else same_reader_does.J56 M C a127_0 a127_1 a127_2 a127_3 a127_4 a127_5 a127_6 a127_7 x128_0 x128_1 x128_2 x128_3 x128_4 x128_5 x128_6 x128_7 G) := (M.hj _ _ _).trans (by kernel_rfl)
def same_reader_does.f (M : Mach) (C : Call) (r0i : Nat) (r0o : Nat) (o1_0 : Int) (o1_1 : Int) (o1_2 : Int) (o1_3 : Int) (o1_4 : Int) (o1_5 : Int) (a2_0 : Int) (a2_1 : Int) (a2_2 : Int) (a2_3 : Int) (a2_4 : Int) (a2_5 : Int) (a2_6 : Int) (a2_7 : Int) (G : GH) : Option Res := bif decide (o1_0 = 1) then same_reader_does.J50 M C r0i r0o o1_0 (decide (o1_0 = 1)) o1_0 o1_1 o1_2 o1_3 o1_4 o1_5 a2_0 a2_1 a2_2 a2_3 a2_4 a2_5 a2_6 a2_7 0 0 0 0 0 0 0 0 o1_1 0 G else same_reader_does.J50 M C r0i r0o o1_0 (decide (o1_0 = 3)) o1_0 o1_1 o1_2 o1_3 o1_4 o1_5 a2_0 a2_1 a2_2 a2_3 a2_4 a2_5 a2_6 a2_7 0 0 0 0 0 0 0 0 o1_1 0 G
theorem same_reader_does.eq (M : Mach) (C : Call) (r0i : Nat) (r0o : Nat) (o1_0 : Int) (o1_1 : Int) (o1_2 : Int) (o1_3 : Int) (o1_4 : Int) (o1_5 : Int) (a2_0 : Int) (a2_1 : Int) (a2_2 : Int) (a2_3 : Int) (a2_4 : Int) (a2_5 : Int) (a2_6 : Int) (a2_7 : Int) (G : GH) : runF M C same_reader_does.d [.c (.ptr r0i r0o), .agg [.int .i64 o1_0, .int .i64 o1_1, .int .i64 o1_2, .int .i64 o1_3, .int .i64 o1_4, .int .u8 o1_5], .agg [.int .i64 a2_0, .int .i64 a2_1, .int .i64 a2_2, .int .u8 a2_3, .int .i64 a2_4, .int .i64 a2_5, .int .i64 a2_6, .int .i64 a2_7]] G = same_reader_does.f M C r0i r0o o1_0 o1_1 o1_2 o1_3 o1_4 o1_5 a2_0 a2_1 a2_2 a2_3 a2_4 a2_5 a2_6 a2_7 G := by kernel_rfl

/- 50 hodman/hodmanref17.place -/
def hodmanref17_place.c30 : DCode := (.seq (.seq (.region [⟨0, some 66, .move (.t 18), none⟩,
    ⟨1, some 67, .move (.t 16), none⟩,
    ⟨2, some 68, .len (.t 67), none⟩,
    ⟨3, some 69, .cmp .lss .i64 (.t 66) (.t 68), none⟩]) (.cond (.t 69) .skip (.exit 0))) (.seq (.block 1 (.region [⟨0, some 72, .faddr 17 13, none⟩,
    ⟨1, some 73, .ldL 72 128 (.c (.sl 1)), none⟩,
    ⟨2, some 74, .faddr 4 0, none⟩,
    ⟨3, some 75, .faddr 74 7, none⟩,
    ⟨4, some 76, .ldL 75 126 (.c (.int .i64)), none⟩,
    ⟨5, some 77, .move (.t 16), none⟩,
    ⟨6, some 78, .move (.t 18), none⟩,
    ⟨7, some 79, .iaddr (.t 77) (.t 78) 1, none⟩,
    ⟨8, some 80, .ldG 79 (.c (.int .i64)), none⟩,
    ⟨9, some 81, .faddr 4 0, none⟩,
    ⟨10, some 82, .faddr 81 4, none⟩,
    ⟨11, some 83, .ldL 82 126 (.c (.int .i64)), none⟩,
    ⟨12, some 84, .call 66 [.t 73, .t 76, .t 80, .t 83] [.c (.sl 1)], none⟩,
    ⟨13, some 85, .faddr 17 13, none⟩,
    ⟨14, none, .stL 85 128 (.t 84) 1, none⟩])) (.region [⟨0, some 70, .move (.t 18), none⟩,
    ⟨1, some 71, .bin .add .i64 (.t 70) (.k (.c (.int .i64 1))), none⟩,
    ⟨2, some 18, .move (.t 71), none⟩])))
def hodmanref17_place.c46 : DCode := (.seq (.seq (.region [⟨0, some 94, .move (.t 19), none⟩,
    ⟨1, some 95, .faddr 17 8, none⟩,
    ⟨2, some 96, .ldL 95 128 (.c (.sl 3)), none⟩,
    ⟨3, some 97, .len (.t 96), none⟩,
    ⟨4, some 98, .cmp .lss .i64 (.t 94) (.t 97), none⟩]) (.cond (.t 98) .skip (.exit 2))) (.seq (.block 3 (.region [⟨0, some 101, .faddr 17 9, none⟩,
    ⟨1, some 102, .ldL 101 128 (.c (.int .i64)), none⟩,
    ⟨2, some 103, .faddr 17 8, none⟩,
    ⟨3, some 104, .ldL 103 128 (.c (.sl 3)), none⟩,
    ⟨4, some 105, .move (.t 19), none⟩,
    ⟨5, some 106, .iaddr (.t 104) (.t 105) 3, none⟩,
    ⟨6, some 107, .faddr 106 1, none⟩,
    ⟨7, some 108, .ldG 107 (.c (.int .i64)), none⟩,
    ⟨8, some 109, .bin .add .i64 (.t 102) (.t 108), none⟩,
    ⟨9, some 110, .faddr 17 9, none⟩,
    ⟨10, none, .stL 110 128 (.t 109) 1, none⟩])) (.region [⟨0, some 99, .move (.t 19), none⟩,
    ⟨1, some 100, .bin .add .i64 (.t 99) (.k (.c (.int .i64 1))), none⟩,
    ⟨2, some 19, .move (.t 100), none⟩])))
def hodmanref17_place.c54 : DCode := (.seq (.region [⟨0, some 111, .faddr 17 10, none⟩,
    ⟨1, some 112, .ldL 111 128 (.c (.int .i64)), none⟩,
    ⟨2, some 113, .faddr 17 9, none⟩,
    ⟨3, some 114, .ldL 113 128 (.c (.int .i64)), none⟩,
    ⟨4, some 115, .mx (.t 112) [.t 114], none⟩,
    ⟨5, some 116, .faddr 17 11, none⟩,
    ⟨6, some 117, .ldL 116 128 (.c (.int .i64)), none⟩,
    ⟨7, some 118, .move (.t 11), none⟩,
    ⟨8, some 119, .move (.t 2), none⟩,
    ⟨9, some 120, .bin .add .i64 (.t 118) (.t 119), none⟩,
    ⟨10, some 121, .mx (.t 117) [.t 120], none⟩,
    ⟨11, some 122, .faddr 17 10, none⟩,
    ⟨12, none, .stL 122 128 (.t 115) 1, none⟩,
    ⟨13, some 123, .faddr 17 11, none⟩,
    ⟨14, none, .stL 123 128 (.t 121) 1, none⟩]) (.seq (.region [⟨0, some 124, .ldL 17 128 (.agg [.int .i64, .int .i64, .int .i64, .int .i64, .int .i64, .int .i64, .int .i64, .int .i64, .sl 3, .int .i64, .int .i64, .int .i64, .sl 1, .sl 1]), none⟩,
    ⟨1, some 125, .move (.t 11), none⟩,
    ⟨2, none, .stL 8 127 (.t 124) 14, none⟩,
    ⟨3, some 9, .move (.t 125), none⟩,
    ⟨4, some 10, .move (.k (.c (.int .i64 0))), none⟩]) .ret))
def hodmanref17_place.c57 : DCode := (.seq (.region [⟨0, some 86, .move (.t 1), none⟩,
    ⟨1, some 87, .move (.t 11), none⟩,
    ⟨2, some 88, .move (.t 2), none⟩,
    ⟨3, some 89, .move (.t 3), none⟩,
    ⟨4, some 90, .build [.int .i64 0, .int .i64 0, .int .i64 0] [(0, 1, .t 87), (1, 1, .t 88), (2, 1, .t 89)], none⟩,
    ⟨5, some 91, .call 67 [.t 86, .t 90] [.c (.sl 3)], none⟩,
    ⟨6, some 92, .faddr 17 8, none⟩,
    ⟨7, none, .stL 92 128 (.t 91) 1, none⟩]) (.seq (.region [⟨0, some 93, .faddr 17 9, none⟩,
    ⟨1, none, .stL 93 128 (.k (.c (.int .i64 0))) 1, none⟩]) (.seq (.seq (.region [⟨0, some 19, .move (.k (.c (.int .i64 0))), none⟩]) (.block 2 (.loop [2, 8, 11, 17, 19, 127, 128] hodmanref17_place.c46))) hodmanref17_place.c54)))
def hodmanref17_place.d : DFn := { ntmps := 129, res := [.box 8 (some 14), .t 9, .t 10], body := (.seq (.region [⟨0, some 4, .boxv 126 [21, 32, 33, 41, 43, 44, 46, 47, 53, 54, 74, 75, 81, 82] (.t 0) 14, none⟩,
    ⟨1, some 8, .boxz 127 [] [.int .i64 0, .int .i64 0, .int .i64 0, .int .i64 0, .int .i64 0, .int .i64 0, .int .i64 0, .int .i64 0, .sl 3 0 0 0, .int .i64 0, .int .i64 0, .int .i64 0, .sl 1 0 0 0, .sl 1 0 0 0], none⟩,
    ⟨2, some 9, .move (.k (.c (.int .i64 0))), none⟩,
    ⟨3, some 10, .move (.k (.c (.int .i64 0))), none⟩]) (.seq (.region [⟨0, some 21, .faddr 4 0, none⟩,
    ⟨1, some 22, .ldL 21 126 (.agg [.int .i64, .int .i64, .int .i64, .int .i64, .int .i64, .int .i64, .int .i64, .int .i64]), none⟩,
    ⟨2, some 23, .move (.t 1), none⟩,
    ⟨3, some 24, .move (.t 2), none⟩,
    ⟨4, some 25, .call 63 [.t 22, .t 23, .t 24] [.c (.int .i64), .c (.bool)], none⟩,
    ⟨5, some 20, .move (.t 25), none⟩,
    ⟨6, some 26, .ext 20 0, none⟩,
    ⟨7, some 27, .ext 20 1, none⟩,
    ⟨8, some 11, .move (.t 26), none⟩,
    ⟨9, some 12, .move (.t 27), none⟩]) (.seq (.seq (.region [⟨0, some 28, .move (.t 12), none⟩,
    ⟨1, some 29, .not (.t 28), none⟩]) (.cond (.t 29) (.seq (.region [⟨0, some 30, .ldL 4 126 (.agg [.int .i64, .int .i64, .int .i64, .int .i64, .int .i64, .int .i64, .int .i64, .int .i64, .sl 3, .int .i64, .int .i64, .int .i64, .sl 1, .sl 1]), none⟩,
    ⟨1, none, .stL 8 127 (.t 30) 14, none⟩,
    ⟨2, some 9, .move (.k (.c (.int .i64 0))), none⟩,
    ⟨3, some 10, .move (.k (.c (.int .i64 7))), none⟩]) .ret) .skip)) (.seq (.region [⟨0, some 32, .faddr 4 0, none⟩,
    ⟨1, some 33, .faddr 32 4, none⟩,
    ⟨2, some 34, .ldL 33 126 (.c (.int .i64)), none⟩,
    ⟨3, some 35, .move (.t 11), none⟩,
    ⟨4, some 36, .move (.t 2), none⟩,
    ⟨5, some 37, .call 64 [.t 34, .t 35, .t 36] [.c (.int .i64), .c (.int .i64)], none⟩,
    ⟨6, some 31, .move (.t 37), none⟩,
    ⟨7, some 38, .ext 31 0, none⟩,
    ⟨8, some 39, .ext 31 1, none⟩,
    ⟨9, some 13, .move (.t 38), none⟩,
    ⟨10, some 14, .move (.t 39), none⟩]) (.seq (.region [⟨0, some 41, .faddr 4 12, none⟩,
    ⟨1, some 42, .ldL 41 126 (.c (.sl 1)), none⟩,
    ⟨2, some 43, .faddr 4 0, none⟩,
    ⟨3, some 44, .faddr 43 4, none⟩,
    ⟨4, some 45, .ldL 44 126 (.c (.int .i64)), none⟩,
    ⟨5, some 46, .faddr 4 0, none⟩,
    ⟨6, some 47, .faddr 46 6, none⟩,
    ⟨7, some 48, .ldL 47 126 (.c (.int .i64)), none⟩,
    ⟨8, some 49, .move (.t 1), none⟩,
    ⟨9, some 50, .call 33 [.t 45, .t 48, .t 49] [.c (.sl 1)], none⟩,
    ⟨10, some 51, .move (.t 13), none⟩,
    ⟨11, some 52, .move (.t 14), none⟩,
    ⟨12, some 53, .faddr 4 0, none⟩,
    ⟨13, some 54, .faddr 53 5, none⟩,
    ⟨14, some 55, .ldL 54 126 (.c (.int .i64)), none⟩,
    ⟨15, some 56, .call 65 [.t 42, .t 50, .t 51, .t 52, .t 55] [.c (.sl 1), .c (.sl 1), .c (.bool)], none⟩,
    ⟨16, some 40, .move (.t 56), none⟩,
    ⟨17, some 57, .ext 40 0, none⟩,
    ⟨18, some 58, .ext 40 1, none⟩,
    ⟨19, some 59, .ext 40 2, none⟩,
    ⟨20, some 15, .move (.t 57), none⟩,
    ⟨21, some 16, .move (.t 58), none⟩,
    ⟨22, some 12, .move (.t 59), none⟩]) (.seq (.seq (.region [⟨0, some 60, .move (.t 12), none⟩,
    ⟨1, some 61, .not (.t 60), none⟩]) (.cond (.t 61) (.seq (.region [⟨0, some 62, .ldL 4 126 (.agg [.int .i64, .int .i64, .int .i64, .int .i64, .int .i64, .int .i64, .int .i64, .int .i64, .sl 3, .int .i64, .int .i64, .int .i64, .sl 1, .sl 1]), none⟩,
    ⟨1, none, .stL 8 127 (.t 62) 14, none⟩,
    ⟨2, some 9, .move (.k (.c (.int .i64 0))), none⟩,
    ⟨3, some 10, .move (.k (.c (.int .i64 6))), none⟩]) .ret) .skip)) (.seq (.region [⟨0, some 63, .ldL 4 126 (.agg [.int .i64, .int .i64, .int .i64, .int .i64, .int .i64, .int .i64, .int .i64, .int .i64, .sl 3, .int .i64, .int .i64, .int .i64, .sl 1, .sl 1]), none⟩,
    ⟨1, some 17, .boxz 128 [65, 72, 85, 92, 93, 95, 101, 103, 110, 111, 113, 116, 122, 123] [.int .i64 0, .int .i64 0, .int .i64 0, .int .i64 0, .int .i64 0, .int .i64 0, .int .i64 0, .int .i64 0, .sl 3 0 0 0, .int .i64 0, .int .i64 0, .int .i64 0, .sl 1 0 0 0, .sl 1 0 0 0], none⟩,
    ⟨2, none, .stL 17 128 (.t 63) 14, none⟩]) (.seq (.region [⟨0, some 64, .move (.t 15), none⟩,
    ⟨1, some 65, .faddr 17 12, none⟩,
    ⟨2, none, .stL 65 128 (.t 64) 1, none⟩]) (.seq (.seq (.region [⟨0, some 18, .move (.k (.c (.int .i64 0))), none⟩]) (.block 0 (.loop [1, 2, 3, 4, 8, 11, 16, 17, 18, 126, 127, 128] hodmanref17_place.c30))) hodmanref17_place.c57))))))))) }
def hodmanref17_place.k57 (M : Mach) (C : Call) : Kont := execC M.j C (M.ag C) hodmanref17_place.c57 ({ exits := [], ret := retK hodmanref17_place.d } : Env) (retK hodmanref17_place.d)
def hodmanref17_place.e32 (M : Mach) (C : Call) : Env := { exits := (0, (hodmanref17_place.k57 M C)) :: (({ exits := [], ret := retK hodmanref17_place.d } : Env)).exits, ret := (({ exits := [], ret := retK hodmanref17_place.d } : Env)).ret }
def hodmanref17_place.L31 (M : Mach) (C : Call) (l1i : Nat) (l1o : Nat) (l1n : Nat) (charge2 : Int) (asked3 : Int) (at11 : Int) (fresh16i : Nat) (fresh16o : Nat) (fresh16n : Nat) (i18 : Int) (m126_0 : Int) (m126_1 : Int) (m126_2 : Int) (m126_3 : Int) (m126_4 : Int) (m126_5 : Int) (m126_6 : Int) (m126_7 : Int) (m126_8i : Nat) (m126_8o : Nat) (m126_8n : Nat) (m126_9 : Int) (m126_10 : Int) (m126_11 : Int) (m126_12i : Nat) (m126_12o : Nat) (m126_12n : Nat) (m126_13i : Nat) (m126_13o : Nat) (m126_13n : Nat) (x127_0 : Int) (x127_1 : Int) (x127_2 : Int) (x127_3 : Int) (x127_4 : Int) (x127_5 : Int) (x127_6 : Int) (x127_7 : Int) (x127_8i : Nat) (x127_8o : Nat) (x127_8n : Nat) (x127_9 : Int) (x127_10 : Int) (x127_11 : Int) (x127_12i : Nat) (x127_12o : Nat) (x127_12n : Nat) (x127_13i : Nat) (x127_13o : Nat) (x127_13n : Nat) (x128_0 : Int) (x128_1 : Int) (x128_2 : Int) (x128_3 : Int) (x128_4 : Int) (x128_5 : Int) (x128_6 : Int) (x128_7 : Int) (x128_8i : Nat) (x128_8o : Nat) (x128_8n : Nat) (x128_9 : Int) (x128_10 : Int) (x128_11 : Int) (x128_12i : Nat) (x128_12o : Nat) (x128_12n : Nat) (x128_13i : Nat) (x128_13o : Nat) (x128_13n : Nat) (G : GH) : Option Res := M.ag C [1, 2, 3, 4, 8, 11, 16, 17, 18, 126, 127, 128] hodmanref17_place.c30 (hodmanref17_place.e32 M C) (hodmanref17_place.k57 M C) [.und, .v (.c (.sl 3 l1i l1o l1n)), .v (.c (.int .i64 charge2)), .v (.c (.int .i64 asked3)), .ref 126 0, .und, .und, .und, .ref 127 0, .und, .und, .v (.c (.int .i64 at11)), .und, .und, .und, .und, .v (.c (.sl 1 fresh16i fresh16o fresh16n)), .ref 128 0, .v (.c (.int .i64 i18)), .und, .und, .und, .und, .und, .und, .und, .und, .und, .und, .und, .und, .und, .und, .und, .und, .und, .und, .und, .und, .und, .und, .und, .und, .und, .und, .und, .und, .und, .und, .und, .und, .und, .und, .und, .und, .und, .und, .und, .und, .und, .und, .und, .und, .und, .und, .und, .und, .und, .und, .und, .und, .und, .und, .und, .und, .und, .und, .und, .und, .und, .und, .und, .und, .und, .und, .und, .und, .und, .und, .und, .und, .und, .und, .und, .und, .und, .und, .und, .und, .und, .und, .und, .und, .und, .und, .und, .und, .und, .und, .und, .und, .und, .und, .und, .und, .und, .und, .und, .und, .und, .und, .und, .und, .und, .und, .und, .box [.int .i64 m126_0, .int .i64 m126_1, .int .i64 m126_2, .int .i64 m126_3, .int .i64 m126_4, .int .i64 m126_5, .int .i64 m126_6, .int .i64 m126_7, .sl 3 m126_8i m126_8o m126_8n, .int .i64 m126_9, .int .i64 m126_10, .int .i64 m126_11, .sl 1 m126_12i m126_12o m126_12n, .sl 1 m126_13i m126_13o m126_13n], .box [.int .i64 x127_0, .int .i64 x127_1, .int .i64 x127_2, .int .i64 x127_3, .int .i64 x127_4, .int .i64 x127_5, .int .i64 x127_6, .int .i64 x127_7, .sl 3 x127_8i x127_8o x127_8n, .int .i64 x127_9, .int .i64 x127_10, .int .i64 x127_11, .sl 1 x127_12i x127_12o x127_12n, .sl 1 x127_13i x127_13o x127_13n], .box [.int .i64 x128_0, .int .i64 x128_1, .int .i64 x128_2, .int .i64 x128_3, .int .i64 x128_4, .int .i64 x128_5, .int .i64 x128_6, .int .i64 x128_7, .sl 3 x128_8i x128_8o x128_8n, .int .i64 x128_9, .int .i64 x128_10, .int .i64 x128_11, .sl 1 x128_12i x128_12o x128_12n, .sl 1 x128_13i x128_13o x128_13n]] G
def hodmanref17_place.k54 (M : Mach) (C : Call) : Kont := execC M.j C (M.ag C) hodmanref17_place.c54 ({ exits := [], ret := retK hodmanref17_place.d } : Env) (retK hodmanref17_place.d)
def hodmanref17_place.e48 (M : Mach) (C : Call) : Env := { exits := (2, (hodmanref17_place.k54 M C)) :: (({ exits := [], ret := retK hodmanref17_place.d } : Env)).exits, ret := (({ exits := [], ret := retK hodmanref17_place.d } : Env)).ret }
def hodmanref17_place.L47 (M : Mach) (C : Call) (charge2 : Int) (at11 : Int) (i19 : Int) (x127_0 : Int) (x127_1 : Int) (x127_2 : Int) (x127_3 : Int) (x127_4 : Int) (x127_5 : Int) (x127_6 : Int) (x127_7 : Int) (x127_8i : Nat) (x127_8o : Nat) (x127_8n : Nat) (x127_9 : Int) (x127_10 : Int) (x127_11 : Int) (x127_12i : Nat) (x127_12o : Nat) (x127_12n : Nat) (x127_13i : Nat) (x127_13o : Nat) (x127_13n : Nat) (x128_0 : Int) (x128_1 : Int) (x128_2 : Int) (x128_3 : Int) (x128_4 : Int) (x128_5 : Int) (x128_6 : Int) (x128_7 : Int) (x128_8i : Nat) (x128_8o : Nat) (x128_8n : Nat) (x128_9 : Int) (x128_10 : Int) (x128_11 : Int) (x128_12i : Nat) (x128_12o : Nat) (x128_12n : Nat) (x128_13i : Nat) (x128_13o : Nat) (x128_13n : Nat) (G : GH) : Option Res := M.ag C [2, 8, 11, 17, 19, 127, 128] hodmanref17_place.c46 (hodmanref17_place.e48 M C) (hodmanref17_place.k54 M C) [.und, .und, .v (.c (.int .i64 charge2)), .und, .und, .und, .und, .und, .ref 127 0, .und, .und, .v (.c (.int .i64 at11)), .und, .und, .und, .und, .und, .ref 128 0, .und, .v (.c (.int .i64 i19)), .und, .und, .und, .und, .und, .und, .und, .und, .und, .und, .und, .und, .und, .und, .und, .und, .und, .und, .und, .und, .und, .und, .und, .und, .und, .und, .und, .und, .und, .und, .und, .und, .und, .und, .und, .und, .und, .und, .und, .und, .und, .und, .und, .und, .und, .und, .und, .und, .und, .und, .und, .und, .und, .und, .und, .und, .und, .und, .und, .und, .und, .und, .und, .und, .und, .und, .und, .und, .und, .und, .und, .und, .und, .und, .und, .und, .und, .und, .und, .und, .und, .und, .und, .und, .und, .und, .und, .und, .und, .und, .und, .und, .und, .und, .und, .und, .und, .und, .und, .und, .und, .und, .und, .und, .und, .und, .und, .box [.int .i64 x127_0, .int .i64 x127_1, .int .i64 x127_2, .int .i64 x127_3, .int .i64 x127_4, .int .i64 x127_5, .int .i64 x127_6, .int .i64 x127_7, .sl 3 x127_8i x127_8o x127_8n, .int .i64 x127_9, .int .i64 x127_10, .int .i64 x127_11, .sl 1 x127_12i x127_12o x127_12n, .sl 1 x127_13i x127_13o x127_13n], .box [.int .i64 x128_0, .int .i64 x128_1, .int .i64 x128_2, .int .i64 x128_3, .int .i64 x128_4, .int .i64 x128_5, .int .i64 x128_6, .int .i64 x128_7, .sl 3 x128_8i x128_8o x128_8n, .int .i64 x128_9, .int .i64 x128_10, .int .i64 x128_11, .sl 1 x128_12i x128_12o x128_12n, .sl 1 x128_13i x128_13o x128_13n]] G
theorem hodmanref17_place.L31_eq (M : Mach) (C : Call) (l1i : Nat) (l1o : Nat) (l1n : Nat) (charge2 : Int) (asked3 : Int) (at11 : Int) (fresh16i : Nat) (fresh16o : Nat) (fresh16n : Nat) (i18 : Int) (m126_0 : Int) (m126_1 : Int) (m126_2 : Int) (m126_3 : Int) (m126_4 : Int) (m126_5 : Int) (m126_6 : Int) (m126_7 : Int) (m126_8i : Nat) (m126_8o : Nat) (m126_8n : Nat) (m126_9 : Int) (m126_10 : Int) (m126_11 : Int) (m126_12i : Nat) (m126_12o : Nat) (m126_12n : Nat) (m126_13i : Nat) (m126_13o : Nat) (m126_13n : Nat) (x127_0 : Int) (x127_1 : Int) (x127_2 : Int) (x127_3 : Int) (x127_4 : Int) (x127_5 : Int) (x127_6 : Int) (x127_7 : Int) (x127_8i : Nat) (x127_8o : Nat) (x127_8n : Nat) (x127_9 : Int) (x127_10 : Int) (x127_11 : Int) (x127_12i : Nat) (x127_12o : Nat) (x127_12n : Nat) (x127_13i : Nat) (x127_13o : Nat) (x127_13n : Nat) (x128_0 : Int) (x128_1 : Int) (x128_2 : Int) (x128_3 : Int) (x128_4 : Int) (x128_5 : Int) (x128_6 : Int) (x128_7 : Int) (x128_8i : Nat) (x128_8o : Nat) (x128_8n : Nat) (x128_9 : Int) (x128_10 : Int) (x128_11 : Int) (x128_12i : Nat) (x128_12o : Nat) (x128_12n : Nat) (x128_13i : Nat) (x128_13o : Nat) (x128_13n : Nat) (G : GH) : hodmanref17_place.L31 M C l1i l1o l1n charge2 asked3 at11 fresh16i fresh16o fresh16n i18 m126_0 m126_1 m126_2 m126_3 m126_4 m126_5 m126_6 m126_7 m126_8i m126_8o m126_8n m126_9 m126_10 m126_11 m126_12i m126_12o m126_12n m126_13i m126_13o m126_13n x127_0 x127_1 x127_2 x127_3 x127_4 x127_5 x127_6 x127_7 x127_8i x127_8o x127_8n x127_9 x127_10 x127_11 x127_12i x127_12o x127_12n x127_13i x127_13o x127_13n x128_0 x128_1 x128_2 x128_3 x128_4 x128_5 x128_6 x128_7 x128_8i x128_8o x128_8n x128_9 x128_10 x128_11 x128_12i x128_12o x128_12n x128_13i x128_13o x128_13n G = (bif decide (i18 < ((fresh16n : Nat) : Int)) then guardK (decide (0 ≤ i18 ∧ i18 < ((fresh16n : Nat) : Int))) (((G.ld fresh16i (fresh16o + Int.toNat i18 * 1)).bind (Cell.asI .i64)).bind fun qx_13 => (C hodmanref8_Fill.id [.c (.sl 1 x128_13i x128_13o x128_13n), .c (.int .i64 m126_7), .c (.int .i64 qx_13), .c (.int .i64 m126_4)] G).bind fun qr_14 => (((qr_14.1[0]?).bind V1.c?).bind (Cell.asS 1)).bind fun qs_15 => hodmanref17_place.L31 M C l1i l1o l1n charge2 asked3 at11 fresh16i fresh16o fresh16n (IntKind.i64.wrap (i18 + 1)) m126_0 m126_1 m126_2 m126_3 m126_4 m126_5 m126_6 m126_7 m126_8i m126_8o m126_8n m126_9 m126_10 m126_11 m126_12i m126_12o m126_12n m126_13i m126_13o m126_13n x127_0 x127_1 x127_2 x127_3 x127_4 x127_5 x127_6 x127_7 x127_8i x127_8o x127_8n x127_9 x127_10 x127_11 x127_12i x127_12o x127_12n x127_13i x127_13o x127_13n x128_0 x128_1 x128_2 x128_3 x128_4 x128_5 x128_6 x128_7 x128_8i x128_8o x128_8n x128_9 x128_10 x128_11 x128_12i x128_12o x128_12n qs_15.1 qs_15.2.1 qs_15.2.2 qr_14.2) else (C hodmanref17_put.id [.c (.sl 3 l1i l1o l1n), .agg [.int .i64 at11, .int .i64 charge2, .int .i64 asked3]] G).bind fun qr_16 => (((qr_16.1[0]?).bind V1.c?).bind (Cell.asS 3)).bind fun qs_17 => hodmanref17_place.L47 M C charge2 at11 0 x127_0 x127_1 x127_2 x127_3 x127_4 x127_5 x127_6 x127_7 x127_8i x127_8o x127_8n x127_9 x127_10 x127_11 x127_12i x127_12o x127_12n x127_13i x127_13o x127_13n x128_0 x128_1 x128_2 x128_3 x128_4 x128_5 x128_6 x128_7 qs_17.1 qs_17.2.1 qs_17.2.2 0 x128_10 x128_11 x128_12i x128_12o x128_12n x128_13i x128_13o x128_13n qr_16.2) := (M.hs _ _ _ _ _ _ _).trans (by kernel_rfl)
theorem hodmanref17_place.L47_eq (M : Mach) (C : Call) (charge2 : Int) (at11 : Int) (i19 : Int) (x127_0 : Int) (x127_1 : Int) (x127_2 : Int) (x127_3 : Int) (x127_4 : Int) (x127_5 : Int) (x127_6 : Int) (x127_7 : Int) (x127_8i : Nat) (x127_8o : Nat) (x127_8n : Nat) (x127_9 : Int) (x127_10 : Int) (x127_11 : Int) (x127_12i : Nat) (x127_12o : Nat) (x127_12n : Nat) (x127_13i : Nat) (x127_13o : Nat) (x127_13n : Nat) (x128_0 : Int) (x128_1 : Int) (x128_2 : Int) (x128_3 : Int) (x128_4 : Int) (x128_5 : Int) (x128_6 : Int) (x128_7 : Int) (x128_8i : Nat) (x128_8o : Nat) (x128_8n : Nat) (x128_9 : Int) (x128_10 : Int) (x128_11 : Int) (x128_12i : Nat) (x128_12o : Nat) (x128_12n : Nat) (x128_13i : Nat) (x128_13o : Nat) (x128_13n : Nat) (G : GH) : hodmanref17_place.L47 M C charge2 at11 i19 x127_0 x127_1 x127_2 x127_3 x127_4 x127_5 x127_6 x127_7 x127_8i x127_8o x127_8n x127_9 x127_10 x127_11 x127_12i x127_12o x127_12n x127_13i x127_13o x127_13n x128_0 x128_1 x128_2 x128_3 x128_4 x128_5 x128_6 x128_7 x128_8i x128_8o x128_8n x128_9 x128_10 x128_11 x128_12i x128_12o x128_12n x128_13i x128_13o x128_13n G = (bif decide (i19 < ((x128_8n : Nat) : Int)) then guardK (decide (0 ≤ i19 ∧ i19 < ((x128_8n : Nat) : Int))) (((G.ld x128_8i ((x128_8o + Int.toNat i19 * 3) + 1)).bind (Cell.asI .i64)).bind fun qx_18 => hodmanref17_place.L47 M C charge2 at11 (IntKind.i64.wrap (i19 + 1)) x127_0 x127_1 x127_2 x127_3 x127_4 x127_5 x127_6 x127_7 x127_8i x127_8o x127_8n x127_9 x127_10 x127_11 x127_12i x127_12o x127_12n x127_13i x127_13o x127_13n x128_0 x128_1 x128_2 x128_3 x128_4 x128_5 x128_6 x128_7 x128_8i x128_8o x128_8n (IntKind.i64.wrap (x128_9 + qx_18)) x128_10 x128_11 x128_12i x128_12o x128_12n x128_13i x128_13o x128_13n G) else some ([.agg [.int .i64 x128_0, .int .i64 x128_1, .int .i64 x128_2, .int .i64 x128_3, .int .i64 x128_4, .int .i64 x128_5, .int .i64 x128_6, .int .i64 x128_7, .sl 3 x128_8i x128_8o x128_8n, .int .i64 x128_9, .int .i64 (mx2 x128_10 x128_9), .int .i64 (mx2 x128_11 (IntKind.i64.wrap (at11 + charge2))), .sl 1 x128_12i x128_12o x128_12n, .sl 1 x128_13i x128_13o x128_13n], .c (.int .i64 at11), .c (.int .i64 0)], G)) := (M.hs _ _ _ _ _ _ _).trans (by kernel_rfl)
def hodmanref17_place.f (M : Mach) (C : Call) (m0_0 : Int) (m0_1 : Int) (m0_2 : Int) (m0_3 : Int) (m0_4 : Int) (m0_5 : Int) (m0_6 : Int) (m0_7 : Int) (m0_8i : Nat) (m0_8o : Nat) (m0_8n : Nat) (m0_9 : Int) (m0_10 : Int) (m0_11 : Int) (m0_12i : Nat) (m0_12o : Nat) (m0_12n : Nat) (m0_13i : Nat) (m0_13o : Nat) (m0_13n : Nat) (l1i : Nat) (l1o : Nat) (l1n : Nat) (charge2 : Int) (asked3 : Int) (G : GH) : Option Res := (C hodmanref17_Lowest.id [.agg [.int .i64 m0_0, .int .i64 m0_1, .int .i64 m0_2, .int .i64 m0_3, .int .i64 m0_4, .int .i64 m0_5, .int .i64 m0_6, .int .i64 m0_7], .c (.sl 3 l1i l1o l1n), .c (.int .i64 charge2)] G).bind fun qr_1 => (((qr_1.1[0]?).bind V1.c?).bind (Cell.asI .i64)).bind fun qx_2 => (((qr_1.1[1]?).bind V1.c?).bind Cell.asB).bind fun qb_3 => bif (!qb_3) then some ([.agg [.int .i64 m0_0, .int .i64 m0_1, .int .i64 m0_2, .int .i64 m0_3, .int .i64 m0_4, .int .i64 m0_5, .int .i64 m0_6, .int .i64 m0_7, .sl 3 m0_8i m0_8o m0_8n, .int .i64 m0_9, .int .i64 m0_10, .int .i64 m0_11, .sl 1 m0_12i m0_12o m0_12n, .sl 1 m0_13i m0_13o m0_13n], .c (.int .i64 0), .c (.int .i64 7)], qr_1.2) else (C hodmanref8_Pages.id [.c (.int .i64 m0_4), .c (.int .i64 qx_2), .c (.int .i64 charge2)] qr_1.2).bind fun qr_4 => (((qr_4.1[0]?).bind V1.c?).bind (Cell.asI .i64)).bind fun qx_5 => (((qr_4.1[1]?).bind V1.c?).bind (Cell.asI .i64)).bind fun qx_6 => (C hodmanref8_Met.id [.c (.int .i64 m0_4), .c (.int .i64 m0_6), .c (.sl 3 l1i l1o l1n)] qr_4.2).bind fun qr_7 => (((qr_7.1[0]?).bind V1.c?).bind (Cell.asS 1)).bind fun qs_8 => (C hodmanref8_Commit.id [.c (.sl 1 m0_12i m0_12o m0_12n), .c (.sl 1 qs_8.1 qs_8.2.1 qs_8.2.2), .c (.int .i64 qx_5), .c (.int .i64 qx_6), .c (.int .i64 m0_5)] qr_7.2).bind fun qr_9 => (((qr_9.1[0]?).bind V1.c?).bind (Cell.asS 1)).bind fun qs_10 => (((qr_9.1[1]?).bind V1.c?).bind (Cell.asS 1)).bind fun qs_11 => (((qr_9.1[2]?).bind V1.c?).bind Cell.asB).bind fun qb_12 => bif (!qb_12) then some ([.agg [.int .i64 m0_0, .int .i64 m0_1, .int .i64 m0_2, .int .i64 m0_3, .int .i64 m0_4, .int .i64 m0_5, .int .i64 m0_6, .int .i64 m0_7, .sl 3 m0_8i m0_8o m0_8n, .int .i64 m0_9, .int .i64 m0_10, .int .i64 m0_11, .sl 1 m0_12i m0_12o m0_12n, .sl 1 m0_13i m0_13o m0_13n], .c (.int .i64 0), .c (.int .i64 6)], qr_9.2) else hodmanref17_place.L31 M C l1i l1o l1n charge2 asked3 qx_2 qs_11.1 qs_11.2.1 qs_11.2.2 0 m0_0 m0_1 m0_2 m0_3 m0_4 m0_5 m0_6 m0_7 m0_8i m0_8o m0_8n m0_9 m0_10 m0_11 m0_12i m0_12o m0_12n m0_13i m0_13o m0_13n 0 0 0 0 0 0 0 0 0 0 0 0 0 0 0 0 0 0 0 0 m0_0 m0_1 m0_2 m0_3 m0_4 m0_5 m0_6 m0_7 m0_8i m0_8o m0_8n m0_9 m0_10 m0_11 qs_10.1 qs_10.2.1 qs_10.2.2 m0_13i m0_13o m0_13n qr_9.2
theorem hodmanref17_place.eq (M : Mach) (C : Call) (m0_0 : Int) (m0_1 : Int) (m0_2 : Int) (m0_3 : Int) (m0_4 : Int) (m0_5 : Int) (m0_6 : Int) (m0_7 : Int) (m0_8i : Nat) (m0_8o : Nat) (m0_8n : Nat) (m0_9 : Int) (m0_10 : Int) (m0_11 : Int) (m0_12i : Nat) (m0_12o : Nat) (m0_12n : Nat) (m0_13i : Nat) (m0_13o : Nat) (m0_13n : Nat) (l1i : Nat) (l1o : Nat) (l1n : Nat) (charge2 : Int) (asked3 : Int) (G : GH) : runF M C hodmanref17_place.d [.agg [.int .i64 m0_0, .int .i64 m0_1, .int .i64 m0_2, .int .i64 m0_3, .int .i64 m0_4, .int .i64 m0_5, .int .i64 m0_6, .int .i64 m0_7, .sl 3 m0_8i m0_8o m0_8n, .int .i64 m0_9, .int .i64 m0_10, .int .i64 m0_11, .sl 1 m0_12i m0_12o m0_12n, .sl 1 m0_13i m0_13o m0_13n], .c (.sl 3 l1i l1o l1n), .c (.int .i64 charge2), .c (.int .i64 asked3)] G = hodmanref17_place.f M C m0_0 m0_1 m0_2 m0_3 m0_4 m0_5 m0_6 m0_7 m0_8i m0_8o m0_8n m0_9 m0_10 m0_11 m0_12i m0_12o m0_12n m0_13i m0_13o m0_13n l1i l1o l1n charge2 asked3 G := by kernel_rfl

/- 7 hodman/hodmanlaw24.SameFails -/
def hodmanlaw24_SameFails.c13 : DCode := (.cond (.t 24) (.seq (.region [⟨0, some 4, .move (.k (.c (.bool true))), none⟩]) .ret) .skip)
def hodmanlaw24_SameFails.c39 : DCode := (.region [⟨0, some 49, .move (.t 12), none⟩,
    ⟨1, some 50, .bin .add .i64 (.t 49) (.k (.c (.int .i64 1))), none⟩,
    ⟨2, some 12, .move (.t 50), none⟩])
def hodmanlaw24_SameFails.c41 : DCode := (.seq (.seq (.region [⟨0, some 45, .move (.t 12), none⟩,
    ⟨1, some 46, .move (.t 8), none⟩,
    ⟨2, some 47, .len (.t 46), none⟩,
    ⟨3, some 48, .cmp .lss .i64 (.t 45) (.t 47), none⟩]) (.cond (.t 48) .skip (.exit 0))) (.seq (.block 1 (.seq (.region [⟨0, some 51, .move (.t 10), none⟩,
    ⟨1, some 52, .move (.t 12), none⟩,
    ⟨2, some 53, .iaddr (.t 51) (.t 52) 8, none⟩,
    ⟨3, some 54, .faddr 53 0, none⟩,
    ⟨4, some 55, .ldG 54 (.c (.int .i64)), none⟩,
    ⟨5, some 56, .cmp .eql .i64 (.t 55) (.k (.c (.int .i64 0))), none⟩]) (.cond (.t 56) (.region [⟨0, some 57, .move (.t 11), none⟩,
    ⟨1, some 58, .move (.t 8), none⟩,
    ⟨2, some 59, .move (.t 12), none⟩,
    ⟨3, some 60, .iaddr (.t 58) (.t 59) 6, none⟩,
    ⟨4, some 61, .ldG 60 (.agg [.int .i64, .int .i64, .int .i64, .int .i64, .int .i64, .int .u8]), none⟩,
    ⟨5, some 62, .bslice 1 6 [.int .i64 0, .int .i64 0, .int .i64 0, .int .i64 0, .int .i64 0, .int .u8 0] [(0, 6, .t 61)], none⟩,
    ⟨6, some 63, .app (.t 57) (.t 62) 6 48, none⟩,
    ⟨7, some 11, .move (.t 63), none⟩]) .skip))) (.cut [6, 8, 10, 11, 12, 82] hodmanlaw24_SameFails.c39)))
def hodmanlaw24_SameFails.c42 : DCode := (.loop [6, 8, 10, 11, 12, 82] hodmanlaw24_SameFails.c41)
def hodmanlaw24_SameFails.c49 : DCode := (.seq (.region [⟨0, some 65, .ldL 6 82 (.agg [.int .i64, .int .i64, .int .i64, .int .i64, .int .i64, .int .i64, .int .i64, .int .i64, .sl 3, .int .i64, .int .i64, .int .i64, .sl 1, .sl 1]), none⟩,
    ⟨1, some 66, .move (.t 11), none⟩,
    ⟨2, some 67, .call 22 [.t 65, .t 66] [.agg [.int .i64, .int .i64, .int .i64, .int .i64, .int .i64, .int .i64, .int .i64, .int .i64, .sl 3, .int .i64, .int .i64, .int .i64, .sl 1, .sl 1], .c (.sl 8)], none⟩,
    ⟨3, some 64, .move (.t 67), none⟩,
    ⟨4, some 68, .ext 64 0, none⟩,
    ⟨5, some 69, .ext 64 1, none⟩,
    ⟨6, some 13, .boxz 84 [] [.int .i64 0, .int .i64 0, .int .i64 0, .int .i64 0, .int .i64 0, .int .i64 0, .int .i64 0, .int .i64 0, .sl 3 0 0 0, .int .i64 0, .int .i64 0, .int .i64 0, .sl 1 0 0 0, .sl 1 0 0 0], none⟩,
    ⟨7, none, .stL 13 84 (.t 68) 14, none⟩,
    ⟨8, some 14, .move (.t 69), none⟩]) (.seq (.region [⟨0, some 70, .faddr 6 0, none⟩,
    ⟨1, some 71, .ldL 70 82 (.agg [.int .i64, .int .i64, .int .i64, .int .i64, .int .i64, .int .i64, .int .i64, .int .i64]), none⟩,
    ⟨2, some 72, .move (.t 8), none⟩,
    ⟨3, some 73, .move (.t 10), none⟩,
    ⟨4, some 74, .call 24 [.t 71, .t 72, .t 73] [.c (.sl 8)], none⟩,
    ⟨5, some 75, .faddr 6 0, none⟩,
    ⟨6, some 76, .ldL 75 82 (.agg [.int .i64, .int .i64, .int .i64, .int .i64, .int .i64, .int .i64, .int .i64, .int .i64]), none⟩,
    ⟨7, some 77, .move (.t 11), none⟩,
    ⟨8, some 78, .move (.t 14), none⟩,
    ⟨9, some 79, .call 24 [.t 76, .t 77, .t 78] [.c (.sl 8)], none⟩,
    ⟨10, some 80, .call 26 [.t 74, .t 79] [.c (.bool)], none⟩,
    ⟨11, some 4, .move (.t 80), none⟩]) .ret))
def hodmanlaw24_SameFails.c56 : DCode := (.seq (.region [⟨0, some 25, .move (.t 0), none⟩,
    ⟨1, some 26, .call 13 [.t 25] [.c (.ptr)], none⟩,
    ⟨2, some 27, .call 14 [.t 26, .k (.c (.bool false))] [.agg [.int .i64, .int .i64, .int .i64, .int .i64, .int .i64, .int .i64]], none⟩,
    ⟨3, some 5, .boxz 81 [] [.int .i64 0, .int .i64 0, .int .i64 0, .int .i64 0, .int .i64 0, .int .i64 0], none⟩,
    ⟨4, none, .stL 5 81 (.t 27) 6, none⟩]) (.seq (.region [⟨0, some 29, .ldL 5 81 (.agg [.int .i64, .int .i64, .int .i64, .int .i64, .int .i64, .int .i64]), none⟩,
    ⟨1, some 30, .call 15 [.t 29] [.agg [.int .i64, .int .i64, .int .i64, .int .i64, .int .i64, .int .i64, .int .i64, .int .i64, .sl 3, .int .i64, .int .i64, .int .i64, .sl 1, .sl 1], .c (.int .i64)], none⟩,
    ⟨2, some 28, .move (.t 30), none⟩,
    ⟨3, some 31, .ext 28 0, none⟩,
    ⟨4, some 32, .ext 28 1, none⟩,
    ⟨5, some 6, .boxz 82 [70, 75] [.int .i64 0, .int .i64 0, .int .i64 0, .int .i64 0, .int .i64 0, .int .i64 0, .int .i64 0, .int .i64 0, .sl 3 0 0 0, .int .i64 0, .int .i64 0, .int .i64 0, .sl 1 0 0 0, .sl 1 0 0 0], none⟩,
    ⟨6, none, .stL 6 82 (.t 31) 14, none⟩,
    ⟨7, some 7, .move (.t 32), none⟩]) (.seq (.seq (.region [⟨0, some 33, .move (.t 7), none⟩,
    ⟨1, some 34, .cmp .neq .i64 (.t 33) (.k (.c (.int .i64 0))), none⟩]) (.cond (.t 34) (.seq (.region [⟨0, some 4, .move (.k (.c (.bool true))), none⟩]) .ret) .skip)) (.seq (.region [⟨0, some 35, .move (.t 1), none⟩,
    ⟨1, some 36, .call 13 [.t 35] [.c (.ptr)], none⟩,
    ⟨2, some 37, .ldL 5 81 (.agg [.int .i64, .int .i64, .int .i64, .int .i64, .int .i64, .int .i64]), none⟩,
    ⟨3, some 38, .call 21 [.t 36, .t 37, .k (.c (.int .i64 60))] [.c (.sl 6)], none⟩,
    ⟨4, some 8, .move (.t 38), none⟩]) (.seq (.region [⟨0, some 40, .ldL 6 82 (.agg [.int .i64, .int .i64, .int .i64, .int .i64, .int .i64, .int .i64, .int .i64, .int .i64, .sl 3, .int .i64, .int .i64, .int .i64, .sl 1, .sl 1]), none⟩,
    ⟨1, some 41, .move (.t 8), none⟩,
    ⟨2, some 42, .call 22 [.t 40, .t 41] [.agg [.int .i64, .int .i64, .int .i64, .int .i64, .int .i64, .int .i64, .int .i64, .int .i64, .sl 3, .int .i64, .int .i64, .int .i64, .sl 1, .sl 1], .c (.sl 8)], none⟩,
    ⟨3, some 39, .move (.t 42), none⟩,
    ⟨4, some 43, .ext 39 0, none⟩,
    ⟨5, some 44, .ext 39 1, none⟩,
    ⟨6, some 9, .boxz 83 [] [.int .i64 0, .int .i64 0, .int .i64 0, .int .i64 0, .int .i64 0, .int .i64 0, .int .i64 0, .int .i64 0, .sl 3 0 0 0, .int .i64 0, .int .i64 0, .int .i64 0, .sl 1 0 0 0, .sl 1 0 0 0], none⟩,
    ⟨7, none, .stL 9 83 (.t 43) 14, none⟩,
    ⟨8, some 10, .move (.t 44), none⟩]) (.seq (.region [⟨0, some 11, .move (.k (.c (.sl 6 0 0 0))), none⟩]) (.seq (.seq (.region [⟨0, some 12, .move (.k (.c (.int .i64 0))), none⟩]) (.block 0 hodmanlaw24_SameFails.c42)) hodmanlaw24_SameFails.c49)))))))
def hodmanlaw24_SameFails.d : DFn := { ntmps := 85, res := [.t 4], body := (.seq (.region [⟨0, some 4, .move (.k (.c (.bool false))), none⟩]) (.seq (.seq (.region [⟨0, some 15, .call 20 [] [.c (.bool)], none⟩,
    ⟨1, some 16, .not (.t 15), none⟩]) (.cond (.t 16) (.seq (.region [⟨0, some 4, .move (.k (.c (.bool false))), none⟩]) .ret) .skip)) (.seq (.seq (.region [⟨0, some 17, .move (.t 0), none⟩,
    ⟨1, some 18, .len (.t 17), none⟩,
    ⟨2, some 19, .cmp .gtr .i64 (.t 18) (.k (.c (.int .i64 6))), none⟩,
    ⟨3, some 20, .move (.t 19), none⟩,
    ⟨4, some 21, .move (.t 1), some (20, false)⟩,
    ⟨5, some 22, .len (.t 21), some (20, false)⟩,
    ⟨6, some 23, .cmp .gtr .i64 (.t 22) (.k (.c (.int .i64 200))), some (20, false)⟩,
    ⟨7, some 24, .pick (.t 20) (.k (.c (.bool true))) (.t 23), none⟩]) (.cut [0, 1, 24] hodmanlaw24_SameFails.c13)) hodmanlaw24_SameFails.c56))) }
def hodmanlaw24_SameFails.k56 (M : Mach) (C : Call) : Kont := execC M.j C (M.ag C) hodmanlaw24_SameFails.c56 ({ exits := [], ret := retK hodmanlaw24_SameFails.d } : Env) (retK hodmanlaw24_SameFails.d)
def hodmanlaw24_SameFails.J13 (M : Mach) (C : Call) (raw0i : Nat) (raw0o : Nat) (raw0n : Nat) (picks1i : Nat) (picks1o : Nat) (picks1n : Nat) (t24 : Bool) (G : GH) : Option Res := M.j (execC M.j C (M.ag C) hodmanlaw24_SameFails.c13 ({ exits := [], ret := retK hodmanlaw24_SameFails.d } : Env) (hodmanlaw24_SameFails.k56 M C)) [.v (.c (.sl 1 raw0i raw0o raw0n)), .v (.c (.sl 1 picks1i picks1o picks1n)), .und, .und, .und, .und, .und, .und, .und, .und, .und, .und, .und, .und, .und, .und, .und, .und, .und, .und, .und, .und, .und, .und, .v (.c (.bool t24)), .und, .und, .und, .und, .und, .und, .und, .und, .und, .und, .und, .und, .und, .und, .und, .und, .und, .und, .und, .und, .und, .und, .und, .und, .und, .und, .und, .und, .und, .und, .und, .und, .und, .und, .und, .und, .und, .und, .und, .und, .und, .und, .und, .und, .und, .und, .und, .und, .und, .und, .und, .und, .und, .und, .und, .und, .und, .und, .und, .und] G
def hodmanlaw24_SameFails.k49 (M : Mach) (C : Call) : Kont := execC M.j C (M.ag C) hodmanlaw24_SameFails.c49 ({ exits := [], ret := retK hodmanlaw24_SameFails.d } : Env) (retK hodmanlaw24_SameFails.d)
def hodmanlaw24_SameFails.e43 (M : Mach) (C : Call) : Env := { exits := (0, (hodmanlaw24_SameFails.k49 M C)) :: (({ exits := [], ret := retK hodmanlaw24_SameFails.d } : Env)).exits, ret := (({ exits := [], ret := retK hodmanlaw24_SameFails.d } : Env)).ret }
def hodmanlaw24_SameFails.L42 (M : Mach) (C : Call) (ops8i : Nat) (ops8o : Nat) (ops8n : Nat) (a10i : Nat) (a10o : Nat) (a10n : Nat) (less11i : Nat) (less11o : Nat) (less11n : Nat) (i12 : Int) (m82_0 : Int) (m82_1 : Int) (m82_2 : Int) (m82_3 : Int) (m82_4 : Int) (m82_5 : Int) (m82_6 : Int) (m82_7 : Int) (m82_8i : Nat) (m82_8o : Nat) (m82_8n : Nat) (m82_9 : Int) (m82_10 : Int) (m82_11 : Int) (m82_12i : Nat) (m82_12o : Nat) (m82_12n : Nat) (m82_13i : Nat) (m82_13o : Nat) (m82_13n : Nat) (G : GH) : Option Res := M.ag C [6, 8, 10, 11, 12, 82] hodmanlaw24_SameFails.c41 (hodmanlaw24_SameFails.e43 M C) (hodmanlaw24_SameFails.k49 M C) [.und, .und, .und, .und, .und, .und, .ref 82 0, .und, .v (.c (.sl 6 ops8i ops8o ops8n)), .und, .v (.c (.sl 8 a10i a10o a10n)), .v (.c (.sl 6 less11i less11o less11n)), .v (.c (.int .i64 i12)), .und, .und, .und, .und, .und, .und, .und, .und, .und, .und, .und, .und, .und, .und, .und, .und, .und, .und, .und, .und, .und, .und, .und, .und, .und, .und, .und, .und, .und, .und, .und, .und, .und, .und, .und, .und, .und, .und, .und, .und, .und, .und, .und, .und, .und, .und, .und, .und, .und, .und, .und, .und, .und, .und, .und, .und, .und, .und, .und, .und, .und, .und, .und, .und, .und, .und, .und, .und, .und, .box [.int .i64 m82_0, .int .i64 m82_1, .int .i64 m82_2, .int .i64 m82_3, .int .i64 m82_4, .int .i64 m82_5, .int .i64 m82_6, .int .i64 m82_7, .sl 3 m82_8i m82_8o m82_8n, .int .i64 m82_9, .int .i64 m82_10, .int .i64 m82_11, .sl 1 m82_12i m82_12o m82_12n, .sl 1 m82_13i m82_13o m82_13n], .und, .und] G
def hodmanlaw24_SameFails.k42 (M : Mach) (C : Call) : Kont := fun tm G => M.ag C [6, 8, 10, 11, 12, 82] hodmanlaw24_SameFails.c41 (hodmanlaw24_SameFails.e43 M C) (hodmanlaw24_SameFails.k49 M C) (restr [6, 8, 10, 11, 12, 82] 0 tm) G
def hodmanlaw24_SameFails.J39 (M : Mach) (C : Call) (ops8i : Nat) (ops8o : Nat) (ops8n : Nat) (a10i : Nat) (a10o : Nat) (a10n : Nat) (less11i : Nat) (less11o : Nat) (less11n : Nat) (i12 : Int) (m82_0 : Int) (m82_1 : Int) (m82_2 : Int) (m82_3 : Int) (m82_4 : Int) (m82_5 : Int) (m82_6 : Int) (m82_7 : Int) (m82_8i : Nat) (m82_8o : Nat) (m82_8n : Nat) (m82_9 : Int) (m82_10 : Int) (m82_11 : Int) (m82_12i : Nat) (m82_12o : Nat) (m82_12n : Nat) (m82_13i : Nat) (m82_13o : Nat) (m82_13n : Nat) (G : GH) : Option Res := M.j (execC M.j C (M.ag C) hodmanlaw24_SameFails.c39 (hodmanlaw24_SameFails.e43 M C) (hodmanlaw24_SameFails.k42 M C)) [.und, .und, .und, .und, .und, .und, .ref 82 0, .und, .v (.c (.sl 6 ops8i ops8o ops8n)), .und, .v (.c (.sl 8 a10i a10o a10n)), .v (.c (.sl 6 less11i less11o less11n)), .v (.c (.int .i64 i12)), .und, .und, .und, .und, .und, .und, .und, .und, .und, .und, .und, .und, .und, .und, .und, .und, .und, .und, .und, .und, .und, .und, .und, .und, .und, .und, .und, .und, .und, .und, .und, .und, .und, .und, .und, .und, .und, .und, .und, .und, .und, .und, .und, .und, .und, .und, .und, .und, .und, .und, .und, .und, .und, .und, .und, .und, .und, .und, .und, .und, .und, .und, .und, .und, .und, .und, .und, .und, .und, .box [.int .i64 m82_0, .int .i64 m82_1, .int .i64 m82_2, .int .i64 m82_3, .int .i64 m82_4, .int .i64 m82_5, .int .i64 m82_6, .int .i64 m82_7, .sl 3 m82_8i m82_8o m82_8n, .int .i64 m82_9, .int .i64 m82_10, .int .i64 m82_11, .sl 1 m82_12i m82_12o m82_12n, .sl 1 m82_13i m82_13o m82_13n], .und, .und] G
theorem hodmanlaw24_SameFails.J13_eq (M : Mach) (C : Call) (raw0i : Nat) (raw0o : Nat) (raw0n : Nat) (picks1i : Nat) (picks1o : Nat) (picks1n : Nat) (t24 : Bool) (G : GH) : hodmanlaw24_SameFails.J13 M C raw0i raw0o raw0n picks1i picks1o picks1n t24 G = (bif t24 then some ([.c (.bool true)], G) else (C hodmanplay_Made.id [.c (.sl 1 raw0i raw0o raw0n)] G).bind fun qr_3 => (((qr_3.1[0]?).bind V1.c?).bind Cell.asP).bind fun qp_4 => (C hodmanplay_Picks_Raw.id [.c (.ptr qp_4.1 qp_4.2), .c (.bool false)] qr_3.2).bind fun qr_5 => ((qr_5.1[0]?).bind V1.a?).bind fun qcs_6 => if qcs_6.length = 6 then (((qcs_6[0]?).bind (Cell.asI .i64)).bind fun qx_7 => ((qcs_6[1]?).bind (Cell.asI .i64)).bind fun qx_8 => ((qcs_6[2]?).bind (Cell.asI .i64)).bind fun qx_9 => ((qcs_6[3]?).bind (Cell.asI .i64)).bind fun qx_10 => ((qcs_6[4]?).bind (Cell.asI .i64)).bind fun qx_11 => ((qcs_6[5]?).bind (Cell.asI .i64)).bind fun qx_12 => (C hodmanref17_New.id [.agg [.int .i64 qx_7, .int .i64 qx_8, .int .i64 qx_9, .int .i64 qx_10, .int .i64 qx_11, .int .i64 qx_12]] qr_5.2).bind fun qr_13 => ((qr_13.1[0]?).bind V1.a?).bind fun qcs_14 => if qcs_14.length = 14 then (((qcs_14[0]?).bind (Cell.asI .i64)).bind fun qx_15 => ((qcs_14[1]?).bind (Cell.asI .i64)).bind fun qx_16 => ((qcs_14[2]?).bind (Cell.asI .i64)).bind fun qx_17 => ((qcs_14[3]?).bind (Cell.asI .i64)).bind fun qx_18 => ((qcs_14[4]?).bind (Cell.asI .i64)).bind fun qx_19 => ((qcs_14[5]?).bind (Cell.asI .i64)).bind fun qx_20 => ((qcs_14[6]?).bind (Cell.asI .i64)).bind fun qx_21 => ((qcs_14[7]?).bind (Cell.asI .i64)).bind fun qx_22 => ((qcs_14[8]?).bind (Cell.asS 3)).bind fun qs_23 => ((qcs_14[9]?).bind (Cell.asI .i64)).bind fun qx_24 => ((qcs_14[10]?).bind (Cell.asI .i64)).bind fun qx_25 => ((qcs_14[11]?).bind (Cell.asI .i64)).bind fun qx_26 => ((qcs_14[12]?).bind (Cell.asS 1)).bind fun qs_27 => ((qcs_14[13]?).bind (Cell.asS 1)).bind fun qs_28 => (((qr_13.1[1]?).bind V1.c?).bind (Cell.asI .i64)).bind fun qx_29 => bif (!decide (qx_29 = 0)) then some ([.c (.bool true)], qr_13.2) else (C hodmanplay_Made.id [.c (.sl 1 picks1i picks1o picks1n)] qr_13.2).bind fun qr_30 => (((qr_30.1[0]?).bind V1.c?).bind Cell.asP).bind fun qp_31 => (C hodmanplay_Picks_Ops.id [.c (.ptr qp_31.1 qp_31.2), .agg [.int .i64 qx_7, .int .i64 qx_8, .int .i64 qx_9, .int .i64 qx_10, .int .i64 qx_11, .int .i64 qx_12], .c (.int .i64 60)] qr_30.2).bind fun qr_32 => (((qr_32.1[0]?).bind V1.c?).bind (Cell.asS 6)).bind fun qs_33 => (C hodmanref17_All.id [.agg [.int .i64 qx_15, .int .i64 qx_16, .int .i64 qx_17, .int .i64 qx_18, .int .i64 qx_19, .int .i64 qx_20, .int .i64 qx_21, .int .i64 qx_22, .sl 3 qs_23.1 qs_23.2.1 qs_23.2.2, .int .i64 qx_24, .int .i64 qx_25, .int .i64 qx_26, .sl 1 qs_27.1 qs_27.2.1 qs_27.2.2, .sl 1 qs_28.1 qs_28.2.1 qs_28.2.2], .c (.sl 6 qs_33.1 qs_33.2.1 qs_33.2.2)] qr_32.2).bind fun qr_34 => ((qr_34.1[0]?).bind V1.a?).bind fun qcs_35 => if qcs_35.length = 14 then (((qcs_35[0]?).bind (Cell.asI .i64)).bind fun qx_36 => ((qcs_35[1]?).bind (Cell.asI .i64)).bind fun qx_37 => ((qcs_35[2]?).bind (Cell.asI .i64)).bind fun qx_38 => ((qcs_35[3]?).bind (Cell.asI .i64)).bind fun qx_39 => ((qcs_35[4]?).bind (Cell.asI .i64)).bind fun qx_40 => ((qcs_35[5]?).bind (Cell.asI .i64)).bind fun qx_41 => ((qcs_35[6]?).bind (Cell.asI .i64)).bind fun qx_42 => ((qcs_35[7]?).bind (Cell.asI .i64)).bind fun qx_43 => ((qcs_35[8]?).bind (Cell.asS 3)).bind fun qs_44 => ((qcs_35[9]?).bind (Cell.asI .i64)).bind fun qx_45 => ((qcs_35[10]?).bind (Cell.asI .i64)).bind fun qx_46 => ((qcs_35[11]?).bind (Cell.asI .i64)).bind fun qx_47 => ((qcs_35[12]?).bind (Cell.asS 1)).bind fun qs_48 => ((qcs_35[13]?).bind (Cell.asS 1)).bind fun qs_49 => (((qr_34.1[1]?).bind V1.c?).bind (Cell.asS 8)).bind fun qs_50 => hodmanlaw24_SameFails.L42 M C qs_33.1 qs_33.2.1 qs_33.2.2 qs_50.1 qs_50.2.1 qs_50.2.2 0 0 0 0 qx_15 qx_16 qx_17 qx_18 qx_19 qx_20 qx_21 qx_22 qs_23.1 qs_23.2.1 qs_23.2.2 qx_24 qx_25 qx_26 qs_27.1 qs_27.2.1 qs_27.2.2 qs_28.1 qs_28.2.1 qs_28.2.2 qr_34.2) else none) else none) else none) := (M.hj _ _ _).trans (by kernel_rfl)
theorem hodmanlaw24_SameFails.L42_eq (M : Mach) (C : Call) (ops8i : Nat) (ops8o : Nat) (ops8n : Nat) (a10i : Nat) (a10o : Nat) (a10n : Nat) (less11i : Nat) (less11o : Nat) (less11n : Nat) (i12 : Int) (m82_0 : Int) (m82_1 : Int) (m82_2 : Int) (m82_3 : Int) (m82_4 : Int) (m82_5 : Int) (m82_6 : Int) (m82_7 : Int) (m82_8i : Nat) (m82_8o : Nat) (m82_8n : Nat) (m82_9 : Int) (m82_10 : Int) (m82_11 : Int) (m82_12i : Nat) (m82_12o : Nat) (m82_12n : Nat) (m82_13i : Nat) (m82_13o : Nat) (m82_13n : Nat) (G : GH) : hodmanlaw24_SameFails.L42 M C ops8i ops8o ops8n a10i a10o a10n less11i less11o less11n i12 m82_0 m82_1 m82_2 m82_3 m82_4 m82_5 m82_6 m82_7 m82_8i m82_8o m82_8n m82_9 m82_10 m82_11 m82_12i m82_12o m82_12n m82_13i m82_13o m82_13n G = (bif decide (i12 < ((ops8n : Nat) : Int)) then guardK (decide (0 ≤ i12 ∧ i12 < ((a10n : Nat) : Int))) (((G.ld a10i ((a10o + Int.toNat i12 * 8) + 0)).bind (Cell.asI .i64)).bind fun qx_51 => bif decide (qx_51 = 0) then guardK (decide (0 ≤ i12 ∧ i12 < ((ops8n : Nat) : Int))) (((G.ld ops8i ((ops8o + Int.toNat i12 * 6) + 0)).bind (Cell.asI .i64)).bind fun qx_52 => ((G.ld ops8i ((ops8o + Int.toNat i12 * 6) + 1)).bind (Cell.asI .i64)).bind fun qx_53 => ((G.ld ops8i ((ops8o + Int.toNat i12 * 6) + 2)).bind (Cell.asI .i64)).bind fun qx_54 => ((G.ld ops8i ((ops8o + Int.toNat i12 * 6) + 3)).bind (Cell.asI .i64)).bind fun qx_55 => ((G.ld ops8i ((ops8o + Int.toNat i12 * 6) + 4)).bind (Cell.asI .i64)).bind fun qx_56 => ((G.ld ops8i ((ops8o + Int.toNat i12 * 6) + 5)).bind (Cell.asI .u8)).bind fun qx_57 => let qG_58 := G.alloc (.row [.int .i64 qx_52, .int .i64 qx_53, .int .i64 qx_54, .int .i64 qx_55, .int .i64 qx_56, .int .u8 qx_57] false); (if 1 = 0 then some [] else qG_58.lds G.next 0 (1 * 6)).bind fun qnew_59 => guardK (decide (less11n + 1 ≤ most)) ((qG_58.app less11i less11o less11n 6 1 qnew_59).bind fun qp_60 => hodmanlaw24_SameFails.J39 M C ops8i ops8o ops8n a10i a10o a10n qp_60.1 qp_60.2.1 (less11n + 1) i12 m82_0 m82_1 m82_2 m82_3 m82_4 m82_5 m82_6 m82_7 m82_8i m82_8o m82_8n m82_9 m82_10 m82_11 m82_12i m82_12o m82_12n m82_13i m82_13o m82_13n qp_60.2.2)) else hodmanlaw24_SameFails.J39 M C ops8i ops8o ops8n a10i a10o a10n less11i less11o less11n i12 m82_0 m82_1 m82_2 m82_3 m82_4 m82_5 m82_6 m82_7 m82_8i m82_8o m82_8n m82_9 m82_10 m82_11 m82_12i m82_12o m82_12n m82_13i m82_13o m82_13n G) else (C hodmanref17_All.id [.agg [.int .i64 m82_0, .int .i64 m82_1, .int .i64 m82_2, .int .i64 m82_3, .int .i64 m82_4, .int .i64 m82_5, .int .i64 m82_6, .int .i64 m82_7, .sl 3 m82_8i m82_8o m82_8n, .int .i64 m82_9, .int .i64 m82_10, .int .i64 m82_11, .sl 1 m82_12i m82_12o m82_12n, .sl 1 m82_13i m82_13o m82_13n], .c (.sl 6 less11i less11o less11n)] G).bind fun qr_61 => ((qr_61.1[0]?).bind V1.a?).bind fun qcs_62 => if qcs_62.length = 14 then (((qcs_62[0]?).bind (Cell.asI .i64)).bind fun qx_63 => ((qcs_62[1]?).bind (Cell.asI .i64)).bind fun qx_64 => ((qcs_62[2]?).bind (Cell.asI .i64)).bind fun qx_65 => ((qcs_62[3]?).bind (Cell.asI .i64)).bind fun qx_66 => ((qcs_62[4]?).bind (Cell.asI .i64)).bind fun qx_67 => ((qcs_62[5]?).bind (Cell.asI .i64)).bind fun qx_68 => ((qcs_62[6]?).bind (Cell.asI .i64)).bind fun qx_69 => ((qcs_62[7]?).bind (Cell.asI .i64)).bind fun qx_70 => ((qcs_62[8]?).bind (Cell.asS 3)).bind fun qs_71 => ((qcs_62[9]?).bind (Cell.asI .i64)).bind fun qx_72 => ((qcs_62[10]?).bind (Cell.asI .i64)).bind fun qx_73 => ((qcs_62[11]?).bind (Cell.asI .i64)).bind fun qx_74 => ((qcs_62[12]?).bind (Cell.asS 1)).bind fun qs_75 => ((qcs_62[13]?).bind (Cell.asS 1)).bind fun qs_76 => (((qr_61.1[1]?).bind V1.c?).bind (Cell.asS 8)).bind fun qs_77 => (C same_Plain.id [.agg [.int .i64 m82_0, .int .i64 m82_1, .int .i64 m82_2, .int .i64 m82_3, .int .i64 m82_4, .int .i64 m82_5, .int .i64 m82_6, .int .i64 m82_7], .c (.sl 6 ops8i ops8o ops8n), .c (.sl 8 a10i a10o a10n)] qr_61.2).bind fun qr_78 => (((qr_78.1[0]?).bind V1.c?).bind (Cell.asS 8)).bind fun qs_79 => (C same_Plain.id [.agg [.int .i64 m82_0, .int .i64 m82_1, .int .i64 m82_2, .int .i64 m82_3, .int .i64 m82_4, .int .i64 m82_5, .int .i64 m82_6, .int .i64 m82_7], .c (.sl 6 less11i less11o less11n), .c (.sl 8 qs_77.1 qs_77.2.1 qs_77.2.2)] qr_78.2).bind fun qr_80 => (((qr_80.1[0]?).bind V1.c?).bind (Cell.asS 8)).bind fun qs_81 => (C same_Same.id [.c (.sl 8 qs_79.1 qs_79.2.1 qs_79.2.2), .c (.sl 8 qs_81.1 qs_81.2.1 qs_81.2.2)] qr_80.2).bind fun qr_82 => (((qr_82.1[0]?).bind V1.c?).bind Cell.asB).bind fun qb_83 => some ([.c (.bool qb_83)], qr_82.2)) else none) := (M.hs _ _ _ _ _ _ _).trans (by kernel_rfl)
theorem hodmanlaw24_SameFails.J39_eq (M : Mach) (C : Call) (ops8i : Nat) (ops8o : Nat) (ops8n : Nat) (a10i : Nat) (a10o : Nat) (a10n : Nat) (less11i : Nat) (less11o : Nat) (less11n : Nat) (i12 : Int) (m82_0 : Int) (m82_1 : Int) (m82_2 : Int) (m82_3 : Int) (m82_4 : Int) (m82_5 : Int) (m82_6 : Int) (m82_7 : Int) (m82_8i : Nat) (m82_8o : Nat) (m82_8n : Nat) (m82_9 : Int) (m82_10 : Int) (m82_11 : Int) (m82_12i : Nat) (m82_12o : Nat) (m82_12n : Nat) (m82_13i : Nat) (m82_13o : Nat) (m82_13n : Nat) (G : GH) : hodmanlaw24_SameFails.J39 M C ops8i ops8o ops8n a10i a10o a10n less11i less11o less11n i12 m82_0 m82_1 m82_2 m82_3 m82_4 m82_5 m82_6 m82_7 m82_8i m82_8o m82_8n m82_9 m82_10 m82_11 m82_12i m82_12o m82_12n m82_13i m82_13o m82_13n G = (hodmanlaw24_SameFails.L42 M C ops8i ops8o ops8n a10i a10o a10n less11i less11o less11n (IntKind.i64.wrap (i12 + 1)) m82_0 m82_1 m82_2 m82_3 m82_4 m82_5 m82_6 m82_7 m82_8i m82_8o m82_8n m82_9 m82_10 m82_11 m82_12i m82_12o m82_12n m82_13i m82_13o m82_13n G) := (M.hj _ _ _).trans (by kernel_rfl)
def hodmanlaw24_SameFails.f (M : Mach) (C : Call) (raw0i : Nat) (raw0o : Nat) (raw0n : Nat) (picks1i : Nat) (picks1o : Nat) (picks1n : Nat) (G : GH) : Option Res := (C hodmanlaw24_begun.id [] G).bind fun qr_1 => (((qr_1.1[0]?).bind V1.c?).bind Cell.asB).bind fun qb_2 => bif (!qb_2) then some ([.c (.bool false)], qr_1.2) else bif decide (((raw0n : Nat) : Int) > 6) then hodmanlaw24_SameFails.J13 M C raw0i raw0o raw0n picks1i picks1o picks1n true qr_1.2 else hodmanlaw24_SameFails.J13 M C raw0i raw0o raw0n picks1i picks1o picks1n (decide (((picks1n : Nat) : Int) > 200)) qr_1.2
theorem hodmanlaw24_SameFails.eq (M : Mach) (C : Call) (raw0i : Nat) (raw0o : Nat) (raw0n : Nat) (picks1i : Nat) (picks1o : Nat) (picks1n : Nat) (G : GH) : runF M C hodmanlaw24_SameFails.d [.c (.sl 1 raw0i raw0o raw0n), .c (.sl 1 picks1i picks1o picks1n)] G = hodmanlaw24_SameFails.f M C raw0i raw0o raw0n picks1i picks1o picks1n G := by kernel_rfl

/- 27 hodman/hodmanref1.Of -/
def hodmanref1_Of.c13 : DCode := (.cond (.t 31) (.seq (.region [⟨0, some 32, .build [.int .i64 0, .int .i64 0, .int .i64 0, .int .i64 0, .int .i64 0, .int .i64 0, .int .i64 0, .int .i64 0] [], none⟩,
    ⟨1, none, .stL 2 123 (.t 32) 8, none⟩,
    ⟨2, some 3, .move (.k (.c (.int .i64 1))), none⟩]) .ret) .skip)
def hodmanref1_Of.c16 : DCode := (.region [⟨0, some 18, .move (.t 5), none⟩,
    ⟨1, some 19, .bin .add .i64 (.t 18) (.k (.c (.int .i64 1))), none⟩,
    ⟨2, some 5, .move (.t 19), none⟩])
def hodmanref1_Of.c18 : DCode := (.seq (.seq (.region [⟨0, some 16, .move (.t 5), none⟩,
    ⟨1, some 17, .cmp .lss .i64 (.t 16) (.k (.c (.int .i64 4))), none⟩]) (.cond (.t 17) .skip (.exit 0))) (.seq (.block 1 (.seq (.region [⟨0, some 20, .move (.t 4), none⟩,
    ⟨1, some 21, .move (.t 5), none⟩,
    ⟨2, some 22, .iaddr (.t 20) (.t 21) 1, none⟩,
    ⟨3, some 23, .ldG 22 (.c (.int .i64)), none⟩,
    ⟨4, some 24, .cmp .lss .i64 (.t 23) (.k (.c (.int .i64 1))), none⟩,
    ⟨5, some 25, .move (.t 24), none⟩,
    ⟨6, some 26, .move (.t 4), some (25, false)⟩,
    ⟨7, some 27, .move (.t 5), some (25, false)⟩,
    ⟨8, some 28, .iaddr (.t 26) (.t 27) 1, some (25, false)⟩,
    ⟨9, some 29, .ldG 28 (.c (.int .i64)), some (25, false)⟩,
    ⟨10, some 30, .cmp .gtr .i64 (.t 29) (.k (.c (.int .i64 65536))), some (25, false)⟩,
    ⟨11, some 31, .pick (.t 25) (.k (.c (.bool true))) (.t 30), none⟩]) (.cut [1, 2, 4, 5, 31, 122, 123] hodmanref1_Of.c13))) hodmanref1_Of.c16))
def hodmanref1_Of.c19 : DCode := (.loop [1, 2, 4, 5, 122, 123] hodmanref1_Of.c18)
def hodmanref1_Of.c27 : DCode := (.cond (.t 50) (.seq (.region [⟨0, some 51, .build [.int .i64 0, .int .i64 0, .int .i64 0, .int .i64 0, .int .i64 0, .int .i64 0, .int .i64 0, .int .i64 0] [], none⟩,
    ⟨1, none, .stL 2 123 (.t 51) 8, none⟩,
    ⟨2, some 3, .move (.k (.c (.int .i64 1))), none⟩]) .ret) .skip)
def hodmanref1_Of.c53 : DCode := (.seq (.region [⟨0, some 52, .faddr 1 4, none⟩,
    ⟨1, some 53, .ldL 52 122 (.c (.int .i64)), none⟩,
    ⟨2, some 54, .faddr 1 5, none⟩,
    ⟨3, some 55, .ldL 54 122 (.c (.int .i64)), none⟩,
    ⟨4, some 56, .build [.int .i64 0, .int .i64 0, .int .i64 0, .int .i64 0, .int .i64 0, .int .i64 0, .int .i64 0, .int .i64 0] [(5, 1, .t 53), (7, 1, .t 55)], none⟩,
    ⟨5, some 6, .boxz 124 [63, 67, 73, 77, 83, 87, 89, 96, 98, 100, 106, 107, 109, 111, 116, 117] [.int .i64 0, .int .i64 0, .int .i64 0, .int .i64 0, .int .i64 0, .int .i64 0, .int .i64 0, .int .i64 0], none⟩,
    ⟨6, none, .stL 6 124 (.t 56) 8, none⟩]) (.seq (.region [⟨0, some 58, .faddr 1 0, none⟩,
    ⟨1, some 59, .ldL 58 122 (.c (.int .i64)), none⟩,
    ⟨2, some 60, .call 42 [.t 59] [.c (.int .i64), .c (.bool)], none⟩,
    ⟨3, some 57, .move (.t 60), none⟩,
    ⟨4, some 61, .ext 57 0, none⟩,
    ⟨5, some 62, .ext 57 1, none⟩,
    ⟨6, some 63, .faddr 6 0, none⟩,
    ⟨7, none, .stL 63 124 (.t 61) 1, none⟩]) (.seq (.region [⟨0, some 65, .faddr 1 1, none⟩,
    ⟨1, some 66, .ldL 65 122 (.c (.int .i64)), none⟩,
    ⟨2, some 67, .faddr 6 0, none⟩,
    ⟨3, some 68, .ldL 67 124 (.c (.int .i64)), none⟩,
    ⟨4, some 69, .mx (.t 66) [.t 68], none⟩,
    ⟨5, some 70, .call 42 [.t 69] [.c (.int .i64), .c (.bool)], none⟩,
    ⟨6, some 64, .move (.t 70), none⟩,
    ⟨7, some 71, .ext 64 0, none⟩,
    ⟨8, some 72, .ext 64 1, none⟩,
    ⟨9, some 73, .faddr 6 1, none⟩,
    ⟨10, none, .stL 73 124 (.t 71) 1, none⟩]) (.seq (.region [⟨0, some 75, .faddr 1 3, none⟩,
    ⟨1, some 76, .ldL 75 122 (.c (.int .i64)), none⟩,
    ⟨2, some 77, .faddr 6 0, none⟩,
    ⟨3, some 78, .ldL 77 124 (.c (.int .i64)), none⟩,
    ⟨4, some 79, .mx (.t 76) [.t 78], none⟩,
    ⟨5, some 80, .call 42 [.t 79] [.c (.int .i64), .c (.bool)], none⟩,
    ⟨6, some 74, .move (.t 80), none⟩,
    ⟨7, some 81, .ext 74 0, none⟩,
    ⟨8, some 82, .ext 74 1, none⟩,
    ⟨9, some 83, .faddr 6 4, none⟩,
    ⟨10, none, .stL 83 124 (.t 81) 1, none⟩]) (.seq (.region [⟨0, some 85, .faddr 1 2, none⟩,
    ⟨1, some 86, .ldL 85 122 (.c (.int .i64)), none⟩,
    ⟨2, some 87, .faddr 6 1, none⟩,
    ⟨3, some 88, .ldL 87 124 (.c (.int .i64)), none⟩,
    ⟨4, some 89, .faddr 6 4, none⟩,
    ⟨5, some 90, .ldL 89 124 (.c (.int .i64)), none⟩,
    ⟨6, some 91, .mx (.t 88) [.t 90], none⟩,
    ⟨7, some 92, .bin .mul .i64 (.k (.c (.int .i64 2))) (.t 91), none⟩,
    ⟨8, some 93, .call 43 [.t 86, .t 92] [.c (.int .i64), .c (.bool)], none⟩,
    ⟨9, some 84, .move (.t 93), none⟩,
    ⟨10, some 94, .ext 84 0, none⟩,
    ⟨11, some 95, .ext 84 1, none⟩,
    ⟨12, some 96, .faddr 6 2, none⟩,
    ⟨13, none, .stL 96 124 (.t 94) 1, none⟩]) (.seq (.region [⟨0, some 98, .faddr 6 1, none⟩,
    ⟨1, some 99, .ldL 98 124 (.c (.int .i64)), none⟩,
    ⟨2, some 100, .faddr 6 0, none⟩,
    ⟨3, some 101, .ldL 100 124 (.c (.int .i64)), none⟩,
    ⟨4, some 102, .bin .quo .i64 (.t 99) (.t 101), none⟩,
    ⟨5, some 103, .call 44 [.t 102] [.c (.int .i64), .c (.bool)], none⟩,
    ⟨6, some 97, .move (.t 103), none⟩,
    ⟨7, some 104, .ext 97 0, none⟩,
    ⟨8, some 105, .ext 97 1, none⟩,
    ⟨9, some 106, .faddr 6 3, none⟩,
    ⟨10, none, .stL 106 124 (.t 104) 1, none⟩]) (.seq (.region [⟨0, some 107, .faddr 6 2, none⟩,
    ⟨1, some 108, .ldL 107 124 (.c (.int .i64)), none⟩,
    ⟨2, some 109, .faddr 6 3, none⟩,
    ⟨3, some 110, .ldL 109 124 (.c (.int .i64)), none⟩,
    ⟨4, some 111, .faddr 6 2, none⟩,
    ⟨5, some 112, .ldL 111 124 (.c (.int .i64)), none⟩,
    ⟨6, some 113, .bin .quo .i64 (.t 112) (.k (.c (.int .i64 2))), none⟩,
    ⟨7, some 114, .bin .mul .i64 (.t 110) (.t 113), none⟩,
    ⟨8, some 115, .bin .add .i64 (.t 108) (.t 114), none⟩,
    ⟨9, some 116, .faddr 6 6, none⟩,
    ⟨10, none, .stL 116 124 (.t 115) 1, none⟩]) (.seq (.seq (.region [⟨0, some 117, .faddr 6 6, none⟩,
    ⟨1, some 118, .ldL 117 124 (.c (.int .i64)), none⟩,
    ⟨2, some 119, .cmp .gtr .i64 (.t 118) (.k (.c (.int .i64 65536))), none⟩]) (.cond (.t 119) (.seq (.region [⟨0, some 120, .build [.int .i64 0, .int .i64 0, .int .i64 0, .int .i64 0, .int .i64 0, .int .i64 0, .int .i64 0, .int .i64 0] [], none⟩,
    ⟨1, none, .stL 2 123 (.t 120) 8, none⟩,
    ⟨2, some 3, .move (.k (.c (.int .i64 1))), none⟩]) .ret) .skip)) (.seq (.region [⟨0, some 121, .ldL 6 124 (.agg [.int .i64, .int .i64, .int .i64, .int .i64, .int .i64, .int .i64, .int .i64, .int .i64]), none⟩,
    ⟨1, none, .stL 2 123 (.t 121) 8, none⟩,
    ⟨2, some 3, .move (.k (.c (.int .i64 0))), none⟩]) .ret)))))))))
def hodmanref1_Of.c54 : DCode := (.seq (.seq (.region [⟨0, some 33, .faddr 1 4, none⟩,
    ⟨1, some 34, .ldL 33 122 (.c (.int .i64)), none⟩,
    ⟨2, some 35, .cmp .lss .i64 (.t 34) (.k (.c (.int .i64 0))), none⟩,
    ⟨3, some 36, .move (.t 35), none⟩,
    ⟨4, some 37, .faddr 1 4, some (36, false)⟩,
    ⟨5, some 38, .ldL 37 122 (.c (.int .i64)), some (36, false)⟩,
    ⟨6, some 39, .cmp .gtr .i64 (.t 38) (.k (.c (.int .i64 65536))), some (36, false)⟩,
    ⟨7, some 40, .pick (.t 36) (.k (.c (.bool true))) (.t 39), none⟩,
    ⟨8, some 41, .move (.t 40), none⟩,
    ⟨9, some 42, .faddr 1 5, some (41, false)⟩,
    ⟨10, some 43, .ldL 42 122 (.c (.int .i64)), some (41, false)⟩,
    ⟨11, some 44, .cmp .lss .i64 (.t 43) (.k (.c (.int .i64 0))), some (41, false)⟩,
    ⟨12, some 45, .pick (.t 41) (.k (.c (.bool true))) (.t 44), none⟩,
    ⟨13, some 46, .move (.t 45), none⟩,
    ⟨14, some 47, .faddr 1 5, some (46, false)⟩,
    ⟨15, some 48, .ldL 47 122 (.c (.int .i64)), some (46, false)⟩,
    ⟨16, some 49, .cmp .gtr .i64 (.t 48) (.k (.c (.int .i64 255))), some (46, false)⟩,
    ⟨17, some 50, .pick (.t 46) (.k (.c (.bool true))) (.t 49), none⟩]) (.cut [1, 2, 50, 122, 123] hodmanref1_Of.c27)) hodmanref1_Of.c53)
def hodmanref1_Of.d : DFn := { ntmps := 125, res := [.box 2 (some 8), .t 3], body := (.seq (.region [⟨0, some 1, .boxv 122 [7, 9, 11, 13, 33, 37, 42, 47, 52, 54, 58, 65, 75, 85] (.t 0) 6, none⟩,
    ⟨1, some 2, .boxz 123 [] [.int .i64 0, .int .i64 0, .int .i64 0, .int .i64 0, .int .i64 0, .int .i64 0, .int .i64 0, .int .i64 0], none⟩,
    ⟨2, some 3, .move (.k (.c (.int .i64 0))), none⟩]) (.seq (.region [⟨0, some 7, .faddr 1 0, none⟩,
    ⟨1, some 8, .ldL 7 122 (.c (.int .i64)), none⟩,
    ⟨2, some 9, .faddr 1 1, none⟩,
    ⟨3, some 10, .ldL 9 122 (.c (.int .i64)), none⟩,
    ⟨4, some 11, .faddr 1 2, none⟩,
    ⟨5, some 12, .ldL 11 122 (.c (.int .i64)), none⟩,
    ⟨6, some 13, .faddr 1 3, none⟩,
    ⟨7, some 14, .ldL 13 122 (.c (.int .i64)), none⟩,
    ⟨8, some 15, .bslice 4 1 [.int .i64 0, .int .i64 0, .int .i64 0, .int .i64 0] [(0, 1, .t 8), (1, 1, .t 10), (2, 1, .t 12), (3, 1, .t 14)], none⟩,
    ⟨9, some 4, .move (.t 15), none⟩]) (.seq (.seq (.region [⟨0, some 5, .move (.k (.c (.int .i64 0))), none⟩]) (.block 0 hodmanref1_Of.c19)) hodmanref1_Of.c54))) }
def hodmanref1_Of.k54 (M : Mach) (C : Call) : Kont := execC M.j C (M.ag C) hodmanref1_Of.c54 ({ exits := [], ret := retK hodmanref1_Of.d } : Env) (retK hodmanref1_Of.d)
def hodmanref1_Of.e20 (M : Mach) (C : Call) : Env := { exits := (0, (hodmanref1_Of.k54 M C)) :: (({ exits := [], ret := retK hodmanref1_Of.d } : Env)).exits, ret := (({ exits := [], ret := retK hodmanref1_Of.d } : Env)).ret }
def hodmanref1_Of.L19 (M : Mach) (C : Call) (l4i : Nat) (l4o : Nat) (l4n : Nat) (i5 : Int) (r122_0 : Int) (r122_1 : Int) (r122_2 : Int) (r122_3 : Int) (r122_4 : Int) (r122_5 : Int) (x123_0 : Int) (x123_1 : Int) (x123_2 : Int) (x123_3 : Int) (x123_4 : Int) (x123_5 : Int) (x123_6 : Int) (x123_7 : Int) (G : GH) : Option Res := M.ag C [1, 2, 4, 5, 122, 123] hodmanref1_Of.c18 (hodmanref1_Of.e20 M C) (hodmanref1_Of.k54 M C) [.und, .ref 122 0, .ref 123 0, .und, .v (.c (.sl 1 l4i l4o l4n)), .v (.c (.int .i64 i5)), .und, .und, .und, .und, .und, .und, .und, .und, .und, .und, .und, .und, .und, .und, .und, .und, .und, .und, .und, .und, .und, .und, .und, .und, .und, .und, .und, .und, .und, .und, .und, .und, .und, .und, .und, .und, .und, .und, .und, .und, .und, .und, .und, .und, .und, .und, .und, .und, .und, .und, .und, .und, .und, .und, .und, .und, .und, .und, .und, .und, .und, .und, .und, .und, .und, .und, .und, .und, .und, .und, .und, .und, .und, .und, .und, .und, .und, .und, .und, .und, .und, .und, .und, .und, .und, .und, .und, .und, .und, .und, .und, .und, .und, .und, .und, .und, .und, .und, .und, .und, .und, .und, .und, .und, .und, .und, .und, .und, .und, .und, .und, .und, .und, .und, .und, .und, .box [.int .i64 r122_0, .int .i64 r122_1, .int .i64 r122_2, .int .i64 r122_3, .int .i64 r122_4, .int .i64 r122_5], .box [.int .i64 x123_0, .int .i64 x123_1, .int .i64 x123_2, .int .i64 x123_3, .int .i64 x123_4, .int .i64 x123_5, .int .i64 x123_6, .int .i64 x123_7], .und] G
def hodmanref1_Of.k19 (M : Mach) (C : Call) : Kont := fun tm G => M.ag C [1, 2, 4, 5, 122, 123] hodmanref1_Of.c18 (hodmanref1_Of.e20 M C) (hodmanref1_Of.k54 M C) (restr [1, 2, 4, 5, 122, 123] 0 tm) G
def hodmanref1_Of.k16 (M : Mach) (C : Call) : Kont := execC M.j C (M.ag C) hodmanref1_Of.c16 (hodmanref1_Of.e20 M C) (hodmanref1_Of.k19 M C)
def hodmanref1_Of.e15 (M : Mach) (C : Call) : Env := { exits := (1, (hodmanref1_Of.k16 M C)) :: ((hodmanref1_Of.e20 M C)).exits, ret := ((hodmanref1_Of.e20 M C)).ret }
def hodmanref1_Of.J13 (M : Mach) (C : Call) (l4i : Nat) (l4o : Nat) (l4n : Nat) (i5 : Int) (t31 : Bool) (r122_0 : Int) (r122_1 : Int) (r122_2 : Int) (r122_3 : Int) (r122_4 : Int) (r122_5 : Int) (x123_0 : Int) (x123_1 : Int) (x123_2 : Int) (x123_3 : Int) (x123_4 : Int) (x123_5 : Int) (x123_6 : Int) (x123_7 : Int) (G : GH) : Option Res := M.j (execC M.j C (M.ag C) hodmanref1_Of.c13 (hodmanref1_Of.e15 M C) (hodmanref1_Of.k16 M C)) [.und, .ref 122 0, .ref 123 0, .und, .v (.c (.sl 1 l4i l4o l4n)), .v (.c (.int .i64 i5)), .und, .und, .und, .und, .und, .und, .und, .und, .und, .und, .und, .und, .und, .und, .und, .und, .und, .und, .und, .und, .und, .und, .und, .und, .und, .v (.c (.bool t31)), .und, .und, .und, .und, .und, .und, .und, .und, .und, .und, .und, .und, .und, .und, .und, .und, .und, .und, .und, .und, .und, .und, .und, .und, .und, .und, .und, .und, .und, .und, .und, .und, .und, .und, .und, .und, .und, .und, .und, .und, .und, .und, .und, .und, .und, .und, .und, .und, .und, .und, .und, .und, .und, .und, .und, .und, .und, .und, .und, .und, .und, .und, .und, .und, .und, .und, .und, .und, .und, .und, .und, .und, .und, .und, .und, .und, .und, .und, .und, .und, .und, .und, .und, .und, .und, .und, .und, .und, .und, .und, .box [.int .i64 r122_0, .int .i64 r122_1, .int .i64 r122_2, .int .i64 r122_3, .int .i64 r122_4, .int .i64 r122_5], .box [.int .i64 x123_0, .int .i64 x123_1, .int .i64 x123_2, .int .i64 x123_3, .int .i64 x123_4, .int .i64 x123_5, .int .i64 x123_6, .int .i64 x123_7], .und] G
def hodmanref1_Of.k53 (M : Mach) (C : Call) : Kont := execC M.j C (M.ag C) hodmanref1_Of.c53 ({ exits := [], ret := retK hodmanref1_Of.d } : Env) (retK hodmanref1_Of.d)
def hodmanref1_Of.J27 (M : Mach) (C : Call) (t50 : Bool) (r122_0 : Int) (r122_1 : Int) (r122_2 : Int) (r122_3 : Int) (r122_4 : Int) (r122_5 : Int) (x123_0 : Int) (x123_1 : Int) (x123_2 : Int) (x123_3 : Int) (x123_4 : Int) (x123_5 : Int) (x123_6 : Int) (x123_7 : Int) (G : GH) : Option Res := M.j (execC M.j C (M.ag C) hodmanref1_Of.c27 ({ exits := [], ret := retK hodmanref1_Of.d } : Env) (hodmanref1_Of.k53 M C)) [.und, .ref 122 0, .ref 123 0, .und, .und, .und, .und, .und, .und, .und, .und, .und, .und, .und, .und, .und, .und, .und, .und, .und, .und, .und, .und, .und, .und, .und, .und, .und, .und, .und, .und, .und, .und, .und, .und, .und, .und, .und, .und, .und, .und, .und, .und, .und, .und, .und, .und, .und, .und, .und, .v (.c (.bool t50)), .und, .und, .und, .und, .und, .und, .und, .und, .und, .und, .und, .und, .und, .und, .und, .und, .und, .und, .und, .und, .und, .und, .und, .und, .und, .und, .und, .und, .und, .und, .und, .und, .und, .und, .und, .und, .und, .und, .und, .und, .und, .und, .und, .und, .und, .und, .und, .und, .und, .und, .und, .und, .und, .und, .und, .und, .und, .und, .und, .und, .und, .und, .und, .und, .und, .und, .und, .und, .und, .und, .und, .box [.int .i64 r122_0, .int .i64 r122_1, .int .i64 r122_2, .int .i64 r122_3, .int .i64 r122_4, .int .i64 r122_5], .box [.int .i64 x123_0, .int .i64 x123_1, .int .i64 x123_2, .int .i64 x123_3, .int .i64 x123_4, .int .i64 x123_5, .int .i64 x123_6, .int .i64 x123_7], .und] G
theorem hodmanref1_Of.L19_eq (M : Mach) (C : Call) (l4i : Nat) (l4o : Nat) (l4n : Nat) (i5 : Int) (r122_0 : Int) (r122_1 : Int) (r122_2 : Int) (r122_3 : Int) (r122_4 : Int) (r122_5 : Int) (x123_0 : Int) (x123_1 : Int) (x123_2 : Int) (x123_3 : Int) (x123_4 : Int) (x123_5 : Int) (x123_6 : Int) (x123_7 : Int) (G : GH) : hodmanref1_Of.L19 M C l4i l4o l4n i5 r122_0 r122_1 r122_2 r122_3 r122_4 r122_5 x123_0 x123_1 x123_2 x123_3 x123_4 x123_5 x123_6 x123_7 G = (bif decide (i5 < 4) then guardK (decide (0 ≤ i5 ∧ i5 < ((l4n : Nat) : Int))) (((G.ld l4i (l4o + Int.toNat i5 * 1)).bind (Cell.asI .i64)).bind fun qx_2 => bif decide (qx_2 < 1) then hodmanref1_Of.J13 M C l4i l4o l4n i5 true r122_0 r122_1 r122_2 r122_3 r122_4 r122_5 x123_0 x123_1 x123_2 x123_3 x123_4 x123_5 x123_6 x123_7 G else guardK (decide (0 ≤ i5 ∧ i5 < ((l4n : Nat) : Int))) (((G.ld l4i (l4o + Int.toNat i5 * 1)).bind (Cell.asI .i64)).bind fun qx_3 => hodmanref1_Of.J13 M C l4i l4o l4n i5 (decide (qx_3 > 65536)) r122_0 r122_1 r122_2 r122_3 r122_4 r122_5 x123_0 x123_1 x123_2 x123_3 x123_4 x123_5 x123_6 x123_7 G)) else bif decide (r122_4 < 0) then hodmanref1_Of.J27 M C true r122_0 r122_1 r122_2 r122_3 r122_4 r122_5 x123_0 x123_1 x123_2 x123_3 x123_4 x123_5 x123_6 x123_7 G else bif decide (r122_4 > 65536) then hodmanref1_Of.J27 M C true r122_0 r122_1 r122_2 r122_3 r122_4 r122_5 x123_0 x123_1 x123_2 x123_3 x123_4 x123_5 x123_6 x123_7 G else bif decide (r122_5 < 0) then hodmanref1_Of.J27 M C true r122_0 r122_1 r122_2 r122_3 r122_4 r122_5 x123_0 x123_1 x123_2 x123_3 x123_4 x123_5 x123_6 x123_7 G else hodmanref1_Of.J27 M C (decide (r122_5 > 255)) r122_0 r122_1 r122_2 r122_3 r122_4 r122_5 x123_0 x123_1 x123_2 x123_3 x123_4 x123_5 x123_6 x123_7 G) := (M.hs _ _ _ _ _ _ _).trans (by kernel_rfl)
theorem hodmanref1_Of.J13_eq (M : Mach) (C : Call) (l4i : Nat) (l4o : Nat) (l4n : Nat) (i5 : Int) (t31 : Bool) (r122_0 : Int) (r122_1 : Int) (r122_2 : Int) (r122_3 : Int) (r122_4 : Int) (r122_5 : Int) (x123_0 : Int) (x123_1 : Int) (x123_2 : Int) (x123_3 : Int) (x123_4 : Int) (x123_5 : Int) (x123_6 : Int) (x123_7 : Int) (G : GH) : hodmanref1_Of.J13 M C l4i l4o l4n i5 t31 r122_0 r122_1 r122_2 r122_3 r122_4 r122_5 x123_0 x123_1 x123_2 x123_3 x123_4 x123_5 x123_6 x123_7 G = (bif t31 then some ([.agg [.int .i64 0, .int .i64 0, .int .i64 0, .int .i64 0, .int .i64 0, .int .i64 0, .int .i64 0, .int .i64 0], .c (.int .i64 1)], G) else hodmanref1_Of.L19 M C l4i l4o l4n (IntKind.i64.wrap (i5 + 1)) r122_0 r122_1 r122_2 r122_3 r122_4 r122_5 x123_0 x123_1 x123_2 x123_3 x123_4 x123_5 x123_6 x123_7 G) := (M.hj _ _ _).trans (by kernel_rfl)
theorem hodmanref1_Of.J27_eq (M : Mach) (C : Call) (t50 : Bool) (r122_0 : Int) (r122_1 : Int) (r122_2 : Int) (r122_3 : Int) (r122_4 : Int) (r122_5 : Int) (x123_0 : Int) (x123_1 : Int) (x123_2 : Int) (x123_3 : Int) (x123_4 : Int) (x123_5 : Int) (x123_6 : Int) (x123_7 : Int) (G : GH) : hodmanref1_Of.J27 M C t50 r122_0 r122_1 r122_2 r122_3 r122_4 r122_5 x123_0 x123_1 x123_2 x123_3 x123_4 x123_5 x123_6 x123_7 G = (bif t50 then some ([.agg [.int .i64 0, .int .i64 0, .int .i64 0, .int .i64 0, .int .i64 0, .int .i64 0, .int .i64 0, .int .i64 0], .c (.int .i64 1)], G) else (C hodmanref1_Up.id [.c (.int .i64 r122_0)] G).bind fun qr_4 => (((qr_4.1[0]?).bind V1.c?).bind (Cell.asI .i64)).bind fun qx_5 => (((qr_4.1[1]?).bind V1.c?).bind Cell.asB).bind fun qb_6 => (C hodmanref1_Up.id [.c (.int .i64 (mx2 r122_1 qx_5))] qr_4.2).bind fun qr_7 => (((qr_7.1[0]?).bind V1.c?).bind (Cell.asI .i64)).bind fun qx_8 => (((qr_7.1[1]?).bind V1.c?).bind Cell.asB).bind fun qb_9 => (C hodmanref1_Up.id [.c (.int .i64 (mx2 r122_3 qx_5))] qr_7.2).bind fun qr_10 => (((qr_10.1[0]?).bind V1.c?).bind (Cell.asI .i64)).bind fun qx_11 => (((qr_10.1[1]?).bind V1.c?).bind Cell.asB).bind fun qb_12 => (C hodmanref1_Round.id [.c (.int .i64 r122_2), .c (.int .i64 (IntKind.i64.wrap (2 * (mx2 qx_8 qx_11))))] qr_10.2).bind fun qr_13 => (((qr_13.1[0]?).bind V1.c?).bind (Cell.asI .i64)).bind fun qx_14 => (((qr_13.1[1]?).bind V1.c?).bind Cell.asB).bind fun qb_15 => (binD .quo .i64 qx_8 qx_5).bind fun qx_16 => (C hodmanref1_Log.id [.c (.int .i64 qx_16)] qr_13.2).bind fun qr_17 => (((qr_17.1[0]?).bind V1.c?).bind (Cell.asI .i64)).bind fun qx_18 => (((qr_17.1[1]?).bind V1.c?).bind Cell.asB).bind fun qb_19 => bif decide (IntKind.i64.wrap (qx_14 + (IntKind.i64.wrap (qx_18 * (IntKind.i64.wrap (Int.tdiv qx_14 2))))) > 65536) then some ([.agg [.int .i64 0, .int .i64 0, .int .i64 0, .int .i64 0, .int .i64 0, .int .i64 0, .int .i64 0, .int .i64 0], .c (.int .i64 1)], qr_17.2) else some ([.agg [.int .i64 qx_5, .int .i64 qx_8, .int .i64 qx_14, .int .i64 qx_18, .int .i64 qx_11, .int .i64 r122_4, .int .i64 (IntKind.i64.wrap (qx_14 + (IntKind.i64.wrap (qx_18 * (IntKind.i64.wrap (Int.tdiv qx_14 2)))))), .int .i64 r122_5], .c (.int .i64 0)], qr_17.2)) := (M.hj _ _ _).trans (by kernel_rfl)
def hodmanref1_Of.f (M : Mach) (C : Call) (r0_0 : Int) (r0_1 : Int) (r0_2 : Int) (r0_3 : Int) (r0_4 : Int) (r0_5 : Int) (G : GH) : Option Res := let qG_1 := G.alloc (.row [.int .i64 r0_0, .int .i64 r0_1, .int .i64 r0_2, .int .i64 r0_3] false); hodmanref1_Of.L19 M C G.next 0 4 0 r0_0 r0_1 r0_2 r0_3 r0_4 r0_5 0 0 0 0 0 0 0 0 qG_1
theorem hodmanref1_Of.eq (M : Mach) (C : Call) (r0_0 : Int) (r0_1 : Int) (r0_2 : Int) (r0_3 : Int) (r0_4 : Int) (r0_5 : Int) (G : GH) : runF M C hodmanref1_Of.d [.agg [.int .i64 r0_0, .int .i64 r0_1, .int .i64 r0_2, .int .i64 r0_3, .int .i64 r0_4, .int .i64 r0_5]] G = hodmanref1_Of.f M C r0_0 r0_1 r0_2 r0_3 r0_4 r0_5 G := by kernel_rfl

/- 21 (*hodman/hodmanplay.Picks).Ops -/
def hodmanplay_Picks_Ops.c14 : DCode := (.cond (.t 26) .skip (.exit 0))
def hodmanplay_Picks_Ops.c23 : DCode := (.seq (.block 1 (.seq (.region [⟨0, some 29, .move (.t 0), none⟩,
    ⟨1, some 30, .faddr 7 0, none⟩,
    ⟨2, some 31, .ldL 30 47 (.agg [.int .i64, .int .i64, .int .i64, .int .i64, .int .i64, .int .i64, .int .i64, .int .i64]), none⟩,
    ⟨3, some 32, .faddr 7 8, none⟩,
    ⟨4, some 33, .ldL 32 47 (.c (.sl 3)), none⟩,
    ⟨5, some 34, .call 38 [.t 29, .t 31, .t 33] [.agg [.int .i64, .int .i64, .int .i64, .int .i64, .int .i64, .int .u8]], none⟩,
    ⟨6, some 11, .boxz 48 [] [.int .i64 0, .int .i64 0, .int .i64 0, .int .i64 0, .int .i64 0, .int .u8 0], none⟩,
    ⟨7, none, .stL 11 48 (.t 34) 6, none⟩]) (.seq (.region [⟨0, some 35, .move (.t 9), none⟩,
    ⟨1, some 36, .ldL 11 48 (.agg [.int .i64, .int .i64, .int .i64, .int .i64, .int .i64, .int .u8]), none⟩,
    ⟨2, some 37, .bslice 1 6 [.int .i64 0, .int .i64 0, .int .i64 0, .int .i64 0, .int .i64 0, .int .u8 0] [(0, 6, .t 36)], none⟩,
    ⟨3, some 38, .app (.t 35) (.t 37) 6 48, none⟩,
    ⟨4, some 9, .move (.t 38), none⟩]) (.region [⟨0, some 40, .ldL 7 47 (.agg [.int .i64, .int .i64, .int .i64, .int .i64, .int .i64, .int .i64, .int .i64, .int .i64, .sl 3, .int .i64, .int .i64, .int .i64, .sl 1, .sl 1]), none⟩,
    ⟨1, some 41, .ldL 11 48 (.agg [.int .i64, .int .i64, .int .i64, .int .i64, .int .i64, .int .u8]), none⟩,
    ⟨2, some 42, .call 18 [.t 40, .t 41] [.agg [.int .i64, .int .i64, .int .i64, .int .i64, .int .i64, .int .i64, .int .i64, .int .i64, .sl 3, .int .i64, .int .i64, .int .i64, .sl 1, .sl 1], .agg [.int .i64, .int .i64, .int .i64, .int .u8, .int .i64, .int .i64, .int .i64, .int .i64]], none⟩,
    ⟨3, some 39, .move (.t 42), none⟩,
    ⟨4, some 43, .ext 39 0, none⟩,
    ⟨5, some 44, .ext 39 1, none⟩,
    ⟨6, none, .stL 7 47 (.t 43) 14, none⟩])))) (.region [⟨0, some 27, .move (.t 10), none⟩,
    ⟨1, some 28, .bin .add .i64 (.t 27) (.k (.c (.int .i64 1))), none⟩,
    ⟨2, some 10, .move (.t 28), none⟩]))
def hodmanplay_Picks_Ops.c24 : DCode := (.seq (.seq (.region [⟨0, some 19, .move (.t 10), none⟩,
    ⟨1, some 20, .move (.t 2), none⟩,
    ⟨2, some 21, .cmp .lss .i64 (.t 19) (.t 20), none⟩,
    ⟨3, some 22, .move (.t 21), none⟩,
    ⟨4, some 23, .move (.t 0), some (22, true)⟩,
    ⟨5, some 24, .call 29 [.t 23] [.c (.bool)], some (22, true)⟩,
    ⟨6, some 25, .not (.t 24), some (22, true)⟩,
    ⟨7, some 26, .pick (.t 22) (.t 25) (.k (.c (.bool false))), none⟩]) (.cut [0, 2, 7, 9, 10, 26, 47] hodmanplay_Picks_Ops.c14)) hodmanplay_Picks_Ops.c23)
def hodmanplay_Picks_Ops.c25 : DCode := (.loop [0, 2, 7, 9, 10, 47] hodmanplay_Picks_Ops.c24)
def hodmanplay_Picks_Ops.c30 : DCode := (.seq (.region [⟨0, some 45, .move (.t 9), none⟩,
    ⟨1, some 6, .move (.t 45), none⟩]) .ret)
def hodmanplay_Picks_Ops.d : DFn := { ntmps := 49, res := [.t 6], body := (.seq (.region [⟨0, some 4, .boxv 46 [] (.t 1) 6, none⟩,
    ⟨1, some 6, .move (.k (.c (.sl 6 0 0 0))), none⟩]) (.seq (.region [⟨0, some 13, .ldL 4 46 (.agg [.int .i64, .int .i64, .int .i64, .int .i64, .int .i64, .int .i64]), none⟩,
    ⟨1, some 14, .call 15 [.t 13] [.agg [.int .i64, .int .i64, .int .i64, .int .i64, .int .i64, .int .i64, .int .i64, .int .i64, .sl 3, .int .i64, .int .i64, .int .i64, .sl 1, .sl 1], .c (.int .i64)], none⟩,
    ⟨2, some 12, .move (.t 14), none⟩,
    ⟨3, some 15, .ext 12 0, none⟩,
    ⟨4, some 16, .ext 12 1, none⟩,
    ⟨5, some 7, .boxz 47 [30, 32] [.int .i64 0, .int .i64 0, .int .i64 0, .int .i64 0, .int .i64 0, .int .i64 0, .int .i64 0, .int .i64 0, .sl 3 0 0 0, .int .i64 0, .int .i64 0, .int .i64 0, .sl 1 0 0 0, .sl 1 0 0 0], none⟩,
    ⟨6, none, .stL 7 47 (.t 15) 14, none⟩,
    ⟨7, some 8, .move (.t 16), none⟩]) (.seq (.seq (.region [⟨0, some 17, .move (.t 8), none⟩,
    ⟨1, some 18, .cmp .neq .i64 (.t 17) (.k (.c (.int .i64 0))), none⟩]) (.cond (.t 18) (.seq (.region [⟨0, some 6, .move (.k (.c (.sl 6 0 0 0))), none⟩]) .ret) .skip)) (.seq (.region [⟨0, some 9, .move (.k (.c (.sl 6 0 0 0))), none⟩]) (.seq (.seq (.region [⟨0, some 10, .move (.k (.c (.int .i64 0))), none⟩]) (.block 0 hodmanplay_Picks_Ops.c25)) hodmanplay_Picks_Ops.c30))))) }
def hodmanplay_Picks_Ops.k30 (M : Mach) (C : Call) : Kont := execC M.j C (M.ag C) hodmanplay_Picks_Ops.c30 ({ exits := [], ret := retK hodmanplay_Picks_Ops.d } : Env) (retK hodmanplay_Picks_Ops.d)
def hodmanplay_Picks_Ops.e26 (M : Mach) (C : Call) : Env := { exits := (0, (hodmanplay_Picks_Ops.k30 M C)) :: (({ exits := [], ret := retK hodmanplay_Picks_Ops.d } : Env)).exits, ret := (({ exits := [], ret := retK hodmanplay_Picks_Ops.d } : Env)).ret }
def hodmanplay_Picks_Ops.L25 (M : Mach) (C : Call) (p0i : Nat) (p0o : Nat) (most2 : Int) (l9i : Nat) (l9o : Nat) (l9n : Nat) (i10 : Int) (m47_0 : Int) (m47_1 : Int) (m47_2 : Int) (m47_3 : Int) (m47_4 : Int) (m47_5 : Int) (m47_6 : Int) (m47_7 : Int) (m47_8i : Nat) (m47_8o : Nat) (m47_8n : Nat) (m47_9 : Int) (m47_10 : Int) (m47_11 : Int) (m47_12i : Nat) (m47_12o : Nat) (m47_12n : Nat) (m47_13i : Nat) (m47_13o : Nat) (m47_13n : Nat) (G : GH) : Option Res := M.ag C [0, 2, 7, 9, 10, 47] hodmanplay_Picks_Ops.c24 (hodmanplay_Picks_Ops.e26 M C) (hodmanplay_Picks_Ops.k30 M C) [.v (.c (.ptr p0i p0o)), .und, .v (.c (.int .i64 most2)), .und, .und, .und, .und, .ref 47 0, .und, .v (.c (.sl 6 l9i l9o l9n)), .v (.c (.int .i64 i10)), .und, .und, .und, .und, .und, .und, .und, .und, .und, .und, .und, .und, .und, .und, .und, .und, .und, .und, .und, .und, .und, .und, .und, .und, .und, .und, .und, .und, .und, .und, .und, .und, .und, .und, .und, .und, .box [.int .i64 m47_0, .int .i64 m47_1, .int .i64 m47_2, .int .i64 m47_3, .int .i64 m47_4, .int .i64 m47_5, .int .i64 m47_6, .int .i64 m47_7, .sl 3 m47_8i m47_8o m47_8n, .int .i64 m47_9, .int .i64 m47_10, .int .i64 m47_11, .sl 1 m47_12i m47_12o m47_12n, .sl 1 m47_13i m47_13o m47_13n], .und] G
def hodmanplay_Picks_Ops.k25 (M : Mach) (C : Call) : Kont := fun tm G => M.ag C [0, 2, 7, 9, 10, 47] hodmanplay_Picks_Ops.c24 (hodmanplay_Picks_Ops.e26 M C) (hodmanplay_Picks_Ops.k30 M C) (restr [0, 2, 7, 9, 10, 47] 0 tm) G
def hodmanplay_Picks_Ops.k23 (M : Mach) (C : Call) : Kont := execC M.j C (M.ag C) hodmanplay_Picks_Ops.c23 (hodmanplay_Picks_Ops.e26 M C) (hodmanplay_Picks_Ops.k25 M C)
def hodmanplay_Picks_Ops.J14 (M : Mach) (C : Call) (p0i : Nat) (p0o : Nat) (most2 : Int) (l9i : Nat) (l9o : Nat) (l9n : Nat) (i10 : Int) (t26 : Bool) (m47_0 : Int) (m47_1 : Int) (m47_2 : Int) (m47_3 : Int) (m47_4 : Int) (m47_5 : Int) (m47_6 : Int) (m47_7 : Int) (m47_8i : Nat) (m47_8o : Nat) (m47_8n : Nat) (m47_9 : Int) (m47_10 : Int) (m47_11 : Int) (m47_12i : Nat) (m47_12o : Nat) (m47_12n : Nat) (m47_13i : Nat) (m47_13o : Nat) (m47_13n : Nat) (G : GH) : Option Res := M.j (execC M.j C (M.ag C) hodmanplay_Picks_Ops.c14 (hodmanplay_Picks_Ops.e26 M C) (hodmanplay_Picks_Ops.k23 M C)) [.v (.c (.ptr p0i p0o)), .und, .v (.c (.int .i64 most2)), .und, .und, .und, .und, .ref 47 0, .und, .v (.c (.sl 6 l9i l9o l9n)), .v (.c (.int .i64 i10)), .und, .und, .und, .und, .und, .und, .und, .und, .und, .und, .und, .und, .und, .und, .und, .v (.c (.bool t26)), .und, .und, .und, .und, .und, .und, .und, .und, .und, .und, .und, .und, .und, .und, .und, .und, .und, .und, .und, .und, .box [.int .i64 m47_0, .int .i64 m47_1, .int .i64 m47_2, .int .i64 m47_3, .int .i64 m47_4, .int .i64 m47_5, .int .i64 m47_6, .int .i64 m47_7, .sl 3 m47_8i m47_8o m47_8n, .int .i64 m47_9, .int .i64 m47_10, .int .i64 m47_11, .sl 1 m47_12i m47_12o m47_12n, .sl 1 m47_13i m47_13o m47_13n], .und] G
theorem hodmanplay_Picks_Ops.L25_eq (M : Mach) (C : Call) (p0i : Nat) (p0o : Nat) (most2 : Int) (l9i : Nat) (l9o : Nat) (l9n : Nat) (i10 : Int) (m47_0 : Int) (m47_1 : Int) (m47_2 : Int) (m47_3 : Int) (m47_4 : Int) (m47_5 : Int) (m47_6 : Int) (m47_7 : Int) (m47_8i : Nat) (m47_8o : Nat) (m47_8n : Nat) (m47_9 : Int) (m47_10 : Int) (m47_11 : Int) (m47_12i : Nat) (m47_12o : Nat) (m47_12n : Nat) (m47_13i : Nat) (m47_13o : Nat) (m47_13n : Nat) (G : GH) : hodmanplay_Picks_Ops.L25 M C p0i p0o most2 l9i l9o l9n i10 m47_0 m47_1 m47_2 m47_3 m47_4 m47_5 m47_6 m47_7 m47_8i m47_8o m47_8n m47_9 m47_10 m47_11 m47_12i m47_12o m47_12n m47_13i m47_13o m47_13n G = (bif decide (i10 < most2) then (C hodmanplay_Picks_Over.id [.c (.ptr p0i p0o)] G).bind fun qr_18 => (((qr_18.1[0]?).bind V1.c?).bind Cell.asB).bind fun qb_19 => hodmanplay_Picks_Ops.J14 M C p0i p0o most2 l9i l9o l9n i10 (!qb_19) m47_0 m47_1 m47_2 m47_3 m47_4 m47_5 m47_6 m47_7 m47_8i m47_8o m47_8n m47_9 m47_10 m47_11 m47_12i m47_12o m47_12n m47_13i m47_13o m47_13n qr_18.2 else hodmanplay_Picks_Ops.J14 M C p0i p0o most2 l9i l9o l9n i10 false m47_0 m47_1 m47_2 m47_3 m47_4 m47_5 m47_6 m47_7 m47_8i m47_8o m47_8n m47_9 m47_10 m47_11 m47_12i m47_12o m47_12n m47_13i m47_13o m47_13n G) := (M.hs _ _ _ _ _ _ _).trans (by kernel_rfl)
theorem hodmanplay_Picks_Ops.J14_eq (M : Mach) (C : Call) (p0i : Nat) (p0o : Nat) (most2 : Int) (l9i : Nat) (l9o : Nat) (l9n : Nat) (i10 : Int) (t26 : Bool) (m47_0 : Int) (m47_1 : Int) (m47_2 : Int) (m47_3 : Int) (m47_4 : Int) (m47_5 : Int) (m47_6 : Int) (m47_7 : Int) (m47_8i : Nat) (m47_8o : Nat) (m47_8n : Nat) (m47_9 : Int) (m47_10 : Int) (m47_11 : Int) (m47_12i : Nat) (m47_12o : Nat) (m47_12n : Nat) (m47_13i : Nat) (m47_13o : Nat) (m47_13n : Nat) (G : GH) : hodmanplay_Picks_Ops.J14 M C p0i p0o most2 l9i l9o l9n i10 t26 m47_0 m47_1 m47_2 m47_3 m47_4 m47_5 m47_6 m47_7 m47_8i m47_8o m47_8n m47_9 m47_10 m47_11 m47_12i m47_12o m47_12n m47_13i m47_13o m47_13n G = (bif t26 then (C hodmanplay_Picks_Op.id [.c (.ptr p0i p0o), .agg [.int .i64 m47_0, .int .i64 m47_1, .int .i64 m47_2, .int .i64 m47_3, .int .i64 m47_4, .int .i64 m47_5, .int .i64 m47_6, .int .i64 m47_7], .c (.sl 3 m47_8i m47_8o m47_8n)] G).bind fun qr_20 => ((qr_20.1[0]?).bind V1.a?).bind fun qcs_21 => if qcs_21.length = 6 then (((qcs_21[0]?).bind (Cell.asI .i64)).bind fun qx_22 => ((qcs_21[1]?).bind (Cell.asI .i64)).bind fun qx_23 => ((qcs_21[2]?).bind (Cell.asI .i64)).bind fun qx_24 => ((qcs_21[3]?).bind (Cell.asI .i64)).bind fun qx_25 => ((qcs_21[4]?).bind (Cell.asI .i64)).bind fun qx_26 => ((qcs_21[5]?).bind (Cell.asI .u8)).bind fun qx_27 => let qG_28 := qr_20.2.alloc (.row [.int .i64 qx_22, .int .i64 qx_23, .int .i64 qx_24, .int .i64 qx_25, .int .i64 qx_26, .int .u8 qx_27] false); (if 1 = 0 then some [] else qG_28.lds qr_20.2.next 0 (1 * 6)).bind fun qnew_29 => guardK (decide (l9n + 1 ≤ most)) ((qG_28.app l9i l9o l9n 6 1 qnew_29).bind fun qp_30 => (C hodmanref17_Do.id [.agg [.int .i64 m47_0, .int .i64 m47_1, .int .i64 m47_2, .int .i64 m47_3, .int .i64 m47_4, .int .i64 m47_5, .int .i64 m47_6, .int .i64 m47_7, .sl 3 m47_8i m47_8o m47_8n, .int .i64 m47_9, .int .i64 m47_10, .int .i64 m47_11, .sl 1 m47_12i m47_12o m47_12n, .sl 1 m47_13i m47_13o m47_13n], .agg [.int .i64 qx_22, .int .i64 qx_23, .int .i64 qx_24, .int .i64 qx_25, .int .i64 qx_26, .int .u8 qx_27]] qp_30.2.2).bind fun qr_31 => ((qr_31.1[0]?).bind V1.a?).bind fun qcs_32 => if qcs_32.length = 14 then (((qcs_32[0]?).bind (Cell.asI .i64)).bind fun qx_33 => ((qcs_32[1]?).bind (Cell.asI .i64)).bind fun qx_34 => ((qcs_32[2]?).bind (Cell.asI .i64)).bind fun qx_35 => ((qcs_32[3]?).bind (Cell.asI .i64)).bind fun qx_36 => ((qcs_32[4]?).bind (Cell.asI .i64)).bind fun qx_37 => ((qcs_32[5]?).bind (Cell.asI .i64)).bind fun qx_38 => ((qcs_32[6]?).bind (Cell.asI .i64)).bind fun qx_39 => ((qcs_32[7]?).bind (Cell.asI .i64)).bind fun qx_40 => ((qcs_32[8]?).bind (Cell.asS 3)).bind fun qs_41 => ((qcs_32[9]?).bind (Cell.asI .i64)).bind fun qx_42 => ((qcs_32[10]?).bind (Cell.asI .i64)).bind fun qx_43 => ((qcs_32[11]?).bind (Cell.asI .i64)).bind fun qx_44 => ((qcs_32[12]?).bind (Cell.asS 1)).bind fun qs_45 => ((qcs_32[13]?).bind (Cell.asS 1)).bind fun qs_46 => ((qr_31.1[1]?).bind V1.a?).bind fun qcs_47 => if qcs_47.length = 8 then (((qcs_47[0]?).bind (Cell.asI .i64)).bind fun qx_48 => ((qcs_47[1]?).bind (Cell.asI .i64)).bind fun qx_49 => ((qcs_47[2]?).bind (Cell.asI .i64)).bind fun qx_50 => ((qcs_47[3]?).bind (Cell.asI .u8)).bind fun qx_51 => ((qcs_47[4]?).bind (Cell.asI .i64)).bind fun qx_52 => ((qcs_47[5]?).bind (Cell.asI .i64)).bind fun qx_53 => ((qcs_47[6]?).bind (Cell.asI .i64)).bind fun qx_54 => ((qcs_47[7]?).bind (Cell.asI .i64)).bind fun qx_55 => hodmanplay_Picks_Ops.L25 M C p0i p0o most2 qp_30.1 qp_30.2.1 (l9n + 1) (IntKind.i64.wrap (i10 + 1)) qx_33 qx_34 qx_35 qx_36 qx_37 qx_38 qx_39 qx_40 qs_41.1 qs_41.2.1 qs_41.2.2 qx_42 qx_43 qx_44 qs_45.1 qs_45.2.1 qs_45.2.2 qs_46.1 qs_46.2.1 qs_46.2.2 qr_31.2) else none) else none)) else none else some ([.c (.sl 6 l9i l9o l9n)], G)) := (M.hj _ _ _).trans (by kernel_rfl)
def hodmanplay_Picks_Ops.f (M : Mach) (C : Call) (p0i : Nat) (p0o : Nat) (r1_0 : Int) (r1_1 : Int) (r1_2 : Int) (r1_3 : Int) (r1_4 : Int) (r1_5 : Int) (most2 : Int) (G : GH) : Option Res := (C hodmanref17_New.id [.agg [.int .i64 r1_0, .int .i64 r1_1, .int .i64 r1_2, .int .i64 r1_3, .int .i64 r1_4, .int .i64 r1_5]] G).bind fun qr_1 => ((qr_1.1[0]?).bind V1.a?).bind fun qcs_2 => if qcs_2.length = 14 then (((qcs_2[0]?).bind (Cell.asI .i64)).bind fun qx_3 => ((qcs_2[1]?).bind (Cell.asI .i64)).bind fun qx_4 => ((qcs_2[2]?).bind (Cell.asI .i64)).bind fun qx_5 => ((qcs_2[3]?).bind (Cell.asI .i64)).bind fun qx_6 => ((qcs_2[4]?).bind (Cell.asI .i64)).bind fun qx_7 => ((qcs_2[5]?).bind (Cell.asI .i64)).bind fun qx_8 => ((qcs_2[6]?).bind (Cell.asI .i64)).bind fun qx_9 => ((qcs_2[7]?).bind (Cell.asI .i64)).bind fun qx_10 => ((qcs_2[8]?).bind (Cell.asS 3)).bind fun qs_11 => ((qcs_2[9]?).bind (Cell.asI .i64)).bind fun qx_12 => ((qcs_2[10]?).bind (Cell.asI .i64)).bind fun qx_13 => ((qcs_2[11]?).bind (Cell.asI .i64)).bind fun qx_14 => ((qcs_2[12]?).bind (Cell.asS 1)).bind fun qs_15 => ((qcs_2[13]?).bind (Cell.asS 1)).bind fun qs_16 => (((qr_1.1[1]?).bind V1.c?).bind (Cell.asI .i64)).bind fun qx_17 => bif (!decide (qx_17 = 0)) then some ([.c (.sl 6 0 0 0)], qr_1.2) else hodmanplay_Picks_Ops.L25 M C p0i p0o most2 0 0 0 0 qx_3 qx_4 qx_5 qx_6 qx_7 qx_8 qx_9 qx_10 qs_11.1 qs_11.2.1 qs_11.2.2 qx_12 qx_13 qx_14 qs_15.1 qs_15.2.1 qs_15.2.2 qs_16.1 qs_16.2.1 qs_16.2.2 qr_1.2) else none
theorem hodmanplay_Picks_Ops.eq (M : Mach) (C : Call) (p0i : Nat) (p0o : Nat) (r1_0 : Int) (r1_1 : Int) (r1_2 : Int) (r1_3 : Int) (r1_4 : Int) (r1_5 : Int) (most2 : Int) (G : GH) : runF M C hodmanplay_Picks_Ops.d [.c (.ptr p0i p0o), .agg [.int .i64 r1_0, .int .i64 r1_1, .int .i64 r1_2, .int .i64 r1_3, .int .i64 r1_4, .int .i64 r1_5], .c (.int .i64 most2)] G = hodmanplay_Picks_Ops.f M C p0i p0o r1_0 r1_1 r1_2 r1_3 r1_4 r1_5 most2 G := by kernel_rfl

/- 24 hodman/same.Plain -/
def same_Plain.c18 : DCode := (.cond (.t 36) (.region [⟨0, some 37, .move (.t 6), none⟩,
    ⟨1, some 38, .move (.t 7), none⟩,
    ⟨2, some 39, .ldL 9 50 (.agg [.int .i64, .int .i64, .int .i64, .int .i64, .int .i64, .int .u8]), none⟩,
    ⟨3, some 40, .move (.t 2), none⟩,
    ⟨4, some 41, .move (.t 8), none⟩,
    ⟨5, some 42, .iaddr (.t 40) (.t 41) 8, none⟩,
    ⟨6, some 43, .ldG 42 (.agg [.int .i64, .int .i64, .int .i64, .int .u8, .int .i64, .int .i64, .int .i64, .int .i64]), none⟩,
    ⟨7, some 44, .call 39 [.t 38, .t 39, .t 43] [.agg [.int .i64, .int .i64, .int .i64, .int .u8, .int .i64, .int .i64, .int .i64, .int .i64]], none⟩,
    ⟨8, some 45, .bslice 1 8 [.int .i64 0, .int .i64 0, .int .i64 0, .int .u8 0, .int .i64 0, .int .i64 0, .int .i64 0, .int .i64 0] [(0, 8, .t 44)], none⟩,
    ⟨9, some 46, .app (.t 37) (.t 45) 8 64, none⟩,
    ⟨10, some 6, .move (.t 46), none⟩]) .skip)
def same_Plain.c22 : DCode := (.region [⟨0, some 47, .bin .add .i64 (.t 21) (.k (.c (.int .i64 1))), none⟩,
    ⟨1, some 21, .move (.t 47), none⟩])
def same_Plain.c25 : DCode := (.seq (.region [⟨0, some 22, .cmp .lss .i64 (.t 21) (.t 20), none⟩]) (.seq (.cond (.t 22) .skip (.exit 0)) (.seq (.block 1 (.seq (.region [⟨0, some 23, .move (.t 21), none⟩,
    ⟨1, some 24, .iaddr (.t 19) (.t 21) 6, none⟩,
    ⟨2, some 25, .ldG 24 (.agg [.int .i64, .int .i64, .int .i64, .int .i64, .int .i64, .int .u8]), none⟩,
    ⟨3, some 9, .boxz 50 [33] [.int .i64 0, .int .i64 0, .int .i64 0, .int .i64 0, .int .i64 0, .int .u8 0], none⟩,
    ⟨4, some 8, .move (.t 23), none⟩,
    ⟨5, none, .stL 9 50 (.t 25) 6, none⟩]) (.seq (.region [⟨0, some 26, .move (.t 2), none⟩,
    ⟨1, some 27, .move (.t 8), none⟩,
    ⟨2, some 28, .iaddr (.t 26) (.t 27) 8, none⟩,
    ⟨3, some 29, .faddr 28 0, none⟩,
    ⟨4, some 30, .ldG 29 (.c (.int .i64)), none⟩,
    ⟨5, some 31, .cmp .eql .i64 (.t 30) (.k (.c (.int .i64 0))), none⟩,
    ⟨6, some 32, .move (.t 31), none⟩,
    ⟨7, some 33, .faddr 9 0, some (32, true)⟩,
    ⟨8, some 34, .ldL 33 50 (.c (.int .i64)), some (32, true)⟩,
    ⟨9, some 35, .cmp .neq .i64 (.t 34) (.k (.c (.int .i64 9))), some (32, true)⟩,
    ⟨10, some 36, .pick (.t 32) (.t 35) (.k (.c (.bool false))), none⟩]) (.cut [2, 6, 7, 8, 9, 19, 20, 21, 36, 50] same_Plain.c18)))) (.cut [2, 6, 7, 19, 20, 21] same_Plain.c22))))
def same_Plain.c26 : DCode := (.loop [2, 6, 7, 19, 20, 21] same_Plain.c25)
def same_Plain.c31 : DCode := (.seq (.region [⟨0, some 48, .move (.t 6), none⟩,
    ⟨1, some 6, .move (.t 48), none⟩]) .ret)
def same_Plain.d : DFn := { ntmps := 51, res := [.t 6], body := (.seq (.region [⟨0, some 3, .boxv 49 [] (.t 0) 8, none⟩,
    ⟨1, some 6, .move (.k (.c (.sl 8 0 0 0))), none⟩]) (.seq (.seq (.region [⟨0, some 10, .move (.t 1), none⟩,
    ⟨1, some 11, .len (.t 10), none⟩,
    ⟨2, some 12, .move (.t 2), none⟩,
    ⟨3, some 13, .len (.t 12), none⟩,
    ⟨4, some 14, .cmp .neq .i64 (.t 11) (.t 13), none⟩]) (.cond (.t 14) (.seq (.region [⟨0, some 6, .move (.k (.c (.sl 8 0 0 0))), none⟩]) .ret) .skip)) (.seq (.region [⟨0, some 15, .ldL 3 49 (.agg [.int .i64, .int .i64, .int .i64, .int .i64, .int .i64, .int .i64, .int .i64, .int .i64]), none⟩,
    ⟨1, some 16, .mkmap (.agg [.int .i64, .int .i64]), none⟩,
    ⟨2, some 17, .build [.int .i64 0, .int .i64 0, .int .i64 0, .int .i64 0, .int .i64 0, .int .i64 0, .int .i64 0, .int .i64 0, .map 0] [(0, 8, .t 15), (8, 1, .t 16)], none⟩,
    ⟨3, some 18, .newv (.t 17) 9, none⟩,
    ⟨4, some 7, .move (.t 18), none⟩]) (.seq (.seq (.region [⟨0, some 19, .move (.t 1), none⟩,
    ⟨1, some 20, .len (.t 19), none⟩,
    ⟨2, some 21, .move (.k (.c (.int .i64 0))), none⟩]) (.block 0 same_Plain.c26)) same_Plain.c31)))) }
def same_Plain.k31 (M : Mach) (C : Call) : Kont := execC M.j C (M.ag C) same_Plain.c31 ({ exits := [], ret := retK same_Plain.d } : Env) (retK same_Plain.d)
def same_Plain.e27 (M : Mach) (C : Call) : Env := { exits := (0, (same_Plain.k31 M C)) :: (({ exits := [], ret := retK same_Plain.d } : Env)).exits, ret := (({ exits := [], ret := retK same_Plain.d } : Env)).ret }
def same_Plain.L26 (M : Mach) (C : Call) (answers2i : Nat) (answers2o : Nat) (answers2n : Nat) (out6i : Nat) (out6o : Nat) (out6n : Nat) (r7i : Nat) (r7o : Nat) (t19i : Nat) (t19o : Nat) (t19n : Nat) (t20 : Int) (t21 : Int) (G : GH) : Option Res := M.ag C [2, 6, 7, 19, 20, 21] same_Plain.c25 (same_Plain.e27 M C) (same_Plain.k31 M C) [.und, .und, .v (.c (.sl 8 answers2i answers2o answers2n)), .und, .und, .und, .v (.c (.sl 8 out6i out6o out6n)), .v (.c (.ptr r7i r7o)), .und, .und, .und, .und, .und, .und, .und, .und, .und, .und, .und, .v (.c (.sl 6 t19i t19o t19n)), .v (.c (.int .i64 t20)), .v (.c (.int .i64 t21)), .und, .und, .und, .und, .und, .und, .und, .und, .und, .und, .und, .und, .und, .und, .und, .und, .und, .und, .und, .und, .und, .und, .und, .und, .und, .und, .und, .und, .und] G
def same_Plain.k26 (M : Mach) (C : Call) : Kont := fun tm G => M.ag C [2, 6, 7, 19, 20, 21] same_Plain.c25 (same_Plain.e27 M C) (same_Plain.k31 M C) (restr [2, 6, 7, 19, 20, 21] 0 tm) G
def same_Plain.k22 (M : Mach) (C : Call) : Kont := execC M.j C (M.ag C) (.cut [2, 6, 7, 19, 20, 21] same_Plain.c22) (same_Plain.e27 M C) (same_Plain.k26 M C)
def same_Plain.e21 (M : Mach) (C : Call) : Env := { exits := (1, (same_Plain.k22 M C)) :: ((same_Plain.e27 M C)).exits, ret := ((same_Plain.e27 M C)).ret }
def same_Plain.J18 (M : Mach) (C : Call) (answers2i : Nat) (answers2o : Nat) (answers2n : Nat) (out6i : Nat) (out6o : Nat) (out6n : Nat) (r7i : Nat) (r7o : Nat) (i8 : Int) (t19i : Nat) (t19o : Nat) (t19n : Nat) (t20 : Int) (t21 : Int) (t36 : Bool) (o50_0 : Int) (o50_1 : Int) (o50_2 : Int) (o50_3 : Int) (o50_4 : Int) (o50_5 : Int) (G : GH) : Option Res := M.j (execC M.j C (M.ag C) same_Plain.c18 (same_Plain.e21 M C) (same_Plain.k22 M C)) [.und, .und, .v (.c (.sl 8 answers2i answers2o answers2n)), .und, .und, .und, .v (.c (.sl 8 out6i out6o out6n)), .v (.c (.ptr r7i r7o)), .v (.c (.int .i64 i8)), .ref 50 0, .und, .und, .und, .und, .und, .und, .und, .und, .und, .v (.c (.sl 6 t19i t19o t19n)), .v (.c (.int .i64 t20)), .v (.c (.int .i64 t21)), .und, .und, .und, .und, .und, .und, .und, .und, .und, .und, .und, .und, .und, .und, .v (.c (.bool t36)), .und, .und, .und, .und, .und, .und, .und, .und, .und, .und, .und, .und, .und, .box [.int .i64 o50_0, .int .i64 o50_1, .int .i64 o50_2, .int .i64 o50_3, .int .i64 o50_4, .int .u8 o50_5]] G
def same_Plain.J22 (M : Mach) (C : Call) (answers2i : Nat) (answers2o : Nat) (answers2n : Nat) (out6i : Nat) (out6o : Nat) (out6n : Nat) (r7i : Nat) (r7o : Nat) (t19i : Nat) (t19o : Nat) (t19n : Nat) (t20 : Int) (t21 : Int) (G : GH) : Option Res := M.j (execC M.j C (M.ag C) same_Plain.c22 (same_Plain.e27 M C) (same_Plain.k26 M C)) [.und, .und, .v (.c (.sl 8 answers2i answers2o answers2n)), .und, .und, .und, .v (.c (.sl 8 out6i out6o out6n)), .v (.c (.ptr r7i r7o)), .und, .und, .und, .und, .und, .und, .und, .und, .und, .und, .und, .v (.c (.sl 6 t19i t19o t19n)), .v (.c (.int .i64 t20)), .v (.c (.int .i64 t21)), .und, .und, .und, .und, .und, .und, .und, .und, .und, .und, .und, .und, .und, .und, .und, .und, .und, .und, .und, .und, .und, .und, .und, .und, .und, .und, .und, .und, .und] G
theorem same_Plain.L26_eq (M : Mach) (C : Call) (answers2i : Nat) (answers2o : Nat) (answers2n : Nat) (out6i : Nat) (out6o : Nat) (out6n : Nat) (r7i : Nat) (r7o : Nat) (t19i : Nat) (t19o : Nat) (t19n : Nat) (t20 : Int) (t21 : Int) (G : GH) : same_Plain.L26 M C answers2i answers2o answers2n out6i out6o out6n r7i r7o t19i t19o t19n t20 t21 G = (bif decide (t21 < t20) then guardK (decide (0 ≤ t21 ∧ t21 < ((t19n : Nat) : Int))) (((G.ld t19i ((t19o + Int.toNat t21 * 6) + 0)).bind (Cell.asI .i64)).bind fun qx_3 => ((G.ld t19i ((t19o + Int.toNat t21 * 6) + 1)).bind (Cell.asI .i64)).bind fun qx_4 => ((G.ld t19i ((t19o + Int.toNat t21 * 6) + 2)).bind (Cell.asI .i64)).bind fun qx_5 => ((G.ld t19i ((t19o + Int.toNat t21 * 6) + 3)).bind (Cell.asI .i64)).bind fun qx_6 => ((G.ld t19i ((t19o + Int.toNat t21 * 6) + 4)).bind (Cell.asI .i64)).bind fun qx_7 => ((G.ld t19i ((t19o + Int.toNat t21 * 6) + 5)).bind (Cell.asI .u8)).bind fun qx_8 => guardK (decide (0 ≤ t21 ∧ t21 < ((answers2n : Nat) : Int))) (((G.ld answers2i ((answers2o + Int.toNat t21 * 8) + 0)).bind (Cell.asI .i64)).bind fun qx_9 => bif decide (qx_9 = 0) then same_Plain.J18 M C answers2i answers2o answers2n out6i out6o out6n r7i r7o t21 t19i t19o t19n t20 t21 (!decide (qx_3 = 9)) qx_3 qx_4 qx_5 qx_6 qx_7 qx_8 G else same_Plain.J18 M C answers2i answers2o answers2n out6i out6o out6n r7i r7o t21 t19i t19o t19n t20 t21 false qx_3 qx_4 qx_5 qx_6 qx_7 qx_8 G)) else some ([.c (.sl 8 out6i out6o out6n)], G)) := (M.hs _ _ _ _ _ _ _).trans (by kernel_rfl)
theorem same_Plain.J18_eq (M : Mach) (C : Call) (answers2i : Nat) (answers2o : Nat) (answers2n : Nat) (out6i : Nat) (out6o : Nat) (out6n : Nat) (r7i : Nat) (r7o : Nat) (i8 : Int) (t19i : Nat) (t19o : Nat) (t19n : Nat) (t20 : Int) (t21 : Int) (t36 : Bool) (o50_0 : Int) (o50_1 : Int) (o50_2 : Int) (o50_3 : Int) (o50_4 : Int) (o50_5 : Int) (G : GH) : same_Plain.J18 M C answers2i answers2o answers2n out6i out6o out6n r7i r7o i8 t19i t19o t19n t20 t21 t36 o50_0 o50_1 o50_2 o50_3 o50_4 o50_5 G = (bif t36 then guardK (decide (0 ≤ i8 ∧ i8 < ((answers2n : Nat) : Int))) (((G.ld answers2i ((answers2o + Int.toNat i8 * 8) + 0)).bind (Cell.asI .i64)).bind fun qx_10 => ((G.ld answers2i ((answers2o + Int.toNat i8 * 8) + 1)).bind (Cell.asI .i64)).bind fun qx_11 => ((G.ld answers2i ((answers2o + Int.toNat i8 * 8) + 2)).bind (Cell.asI .i64)).bind fun qx_12 => ((G.ld answers2i ((answers2o + Int.toNat i8 * 8) + 3)).bind (Cell.asI .u8)).bind fun qx_13 => ((G.ld answers2i ((answers2o + Int.toNat i8 * 8) + 4)).bind (Cell.asI .i64)).bind fun qx_14 => ((G.ld answers2i ((answers2o + Int.toNat i8 * 8) + 5)).bind (Cell.asI .i64)).bind fun qx_15 => ((G.ld answers2i ((answers2o + Int.toNat i8 * 8) + 6)).bind (Cell.asI .i64)).bind fun qx_16 => ((G.ld answers2i ((answers2o + Int.toNat i8 * 8) + 7)).bind (Cell.asI .i64)).bind fun qx_17 => (C same_reader_does.id [.c (.ptr r7i r7o), .agg [.int .i64 o50_0, .int .i64 o50_1, .int .i64 o50_2, .int .i64 o50_3, .int .i64 o50_4, .int .u8 o50_5], .agg [.int .i64 qx_10, .int .i64 qx_11, .int .i64 qx_12, .int .u8 qx_13, .int .i64 qx_14, .int .i64 qx_15, .int .i64 qx_16, .int .i64 qx_17]] G).bind fun qr_18 => ((qr_18.1[0]?).bind V1.a?).bind fun qcs_19 => if qcs_19.length = 8 then (((qcs_19[0]?).bind (Cell.asI .i64)).bind fun qx_20 => ((qcs_19[1]?).bind (Cell.asI .i64)).bind fun qx_21 => ((qcs_19[2]?).bind (Cell.asI .i64)).bind fun qx_22 => ((qcs_19[3]?).bind (Cell.asI .u8)).bind fun qx_23 => ((qcs_19[4]?).bind (Cell.asI .i64)).bind fun qx_24 => ((qcs_19[5]?).bind (Cell.asI .i64)).bind fun qx_25 => ((qcs_19[6]?).bind (Cell.asI .i64)).bind fun qx_26 => ((qcs_19[7]?).bind (Cell.asI .i64)).bind fun qx_27 => let qG_28 := qr_18.2.alloc (.row [.int .i64 qx_20, .int .i64 qx_21, .int .i64 qx_22, .int .u8 qx_23, .int .i64 qx_24, .int .i64 qx_25, .int .i64 qx_26, .int .i64 qx_27] false); (if 1 = 0 then some [] else qG_28.lds qr_18.2.next 0 (1 * 8)).bind fun qnew_29 => guardK (decide (out6n + 1 ≤ most)) ((qG_28.app out6i out6o out6n 8 1 qnew_29).bind fun qp_30 => same_Plain.J22 M C answers2i answers2o answers2n qp_30.1 qp_30.2.1 (out6n + 1) r7i r7o t19i t19o t19n t20 t21 qp_30.2.2)) else none) else same_Plain.J22 M C answers2i answers2o answers2n out6i out6o out6n r7i r7o t19i t19o t19n t20 t21 G) := (M.hj _ _ _).trans (by kernel_rfl)
theorem same_Plain.J22_eq (M : Mach) (C : Call) (answers2i : Nat) (answers2o : Nat) (answers2n : Nat) (out6i : Nat) (out6o : Nat) (out6n : Nat) (r7i : Nat) (r7o : Nat) (t19i : Nat) (t19o : Nat) (t19n : Nat) (t20 : Int) (t21 : Int) (G : GH) : same_Plain.J22 M C answers2i answers2o answers2n out6i out6o out6n r7i r7o t19i t19o t19n t20 t21 G = (same_Plain.L26 M C answers2i answers2o answers2n out6i out6o out6n r7i r7o t19i t19o t19n t20 (IntKind.i64.wrap (t21 + 1)) G) := (M.hj _ _ _).trans (by kernel_rfl)
def same_Plain.f (M : Mach) (C : Call) (c0_0 : Int) (c0_1 : Int) (c0_2 : Int) (c0_3 : Int) (c0_4 : Int) (c0_5 : Int) (c0_6 : Int) (c0_7 : Int) (ops1i : Nat) (ops1o : Nat) (ops1n : Nat) (answers2i : Nat) (answers2o : Nat) (answers2n : Nat) (G : GH) : Option Res := bif (!decide (((ops1n : Nat) : Int) = ((answers2n : Nat) : Int))) then some ([.c (.sl 8 0 0 0)], G) else let qG_1 := G.alloc (.map (.agg [.int .i64, .int .i64]) []); let qG_2 := qG_1.alloc (.row [.int .i64 c0_0, .int .i64 c0_1, .int .i64 c0_2, .int .i64 c0_3, .int .i64 c0_4, .int .i64 c0_5, .int .i64 c0_6, .int .i64 c0_7, .map G.next] false); same_Plain.L26 M C answers2i answers2o answers2n 0 0 0 qG_1.next 0 ops1i ops1o ops1n ((ops1n : Nat) : Int) 0 qG_2
theorem same_Plain.eq (M : Mach) (C : Call) (c0_0 : Int) (c0_1 : Int) (c0_2 : Int) (c0_3 : Int) (c0_4 : Int) (c0_5 : Int) (c0_6 : Int) (c0_7 : Int) (ops1i : Nat) (ops1o : Nat) (ops1n : Nat) (answers2i : Nat) (answers2o : Nat) (answers2n : Nat) (G : GH) : runF M C same_Plain.d [.agg [.int .i64 c0_0, .int .i64 c0_1, .int .i64 c0_2, .int .i64 c0_3, .int .i64 c0_4, .int .i64 c0_5, .int .i64 c0_6, .int .i64 c0_7], .c (.sl 6 ops1i ops1o ops1n), .c (.sl 8 answers2i answers2o answers2n)] G = same_Plain.f M C c0_0 c0_1 c0_2 c0_3 c0_4 c0_5 c0_6 c0_7 ops1i ops1o ops1n answers2i answers2o answers2n G := by kernel_rfl

/- 38 (*hodman/hodmanplay.Picks).Op -/
def hodmanplay_Picks_Op.d : DFn := { ntmps := 90, res := [.box 6 (some 6)], body := (.seq (.region [⟨0, some 4, .boxv 88 [] (.t 1) 8, none⟩,
    ⟨1, some 6, .boxz 89 [] [.int .i64 0, .int .i64 0, .int .i64 0, .int .i64 0, .int .i64 0, .int .u8 0], none⟩]) (.seq (.seq (.region [⟨0, some 8, .move (.t 0), none⟩,
    ⟨1, some 9, .call 28 [.t 8, .k (.c (.int .i64 20))] [.c (.int .i64)], none⟩,
    ⟨2, some 7, .move (.t 9), none⟩]) (.block 0 (.seq (.region [⟨0, some 11, .move (.t 7), none⟩,
    ⟨1, some 12, .cmp .lss .i64 (.t 11) (.k (.c (.int .i64 6))), none⟩,
    ⟨2, some 10, .move (.t 12), none⟩]) (.cond (.t 10) (.seq (.region [⟨0, some 13, .move (.t 0), none⟩,
    ⟨1, some 14, .ldL 4 88 (.agg [.int .i64, .int .i64, .int .i64, .int .i64, .int .i64, .int .i64, .int .i64, .int .i64]), none⟩,
    ⟨2, some 15, .call 54 [.t 13, .t 14] [.c (.int .i64)], none⟩,
    ⟨3, some 16, .build [.int .i64 0, .int .i64 0, .int .i64 0, .int .i64 0, .int .i64 0, .int .u8 0] [(0, 1, .k (.c (.int .i64 1))), (2, 1, .t 15)], none⟩,
    ⟨4, none, .stL 6 89 (.t 16) 6, none⟩]) .ret) (.seq (.region [⟨0, some 18, .move (.t 7), none⟩,
    ⟨1, some 19, .cmp .eql .i64 (.t 18) (.k (.c (.int .i64 6))), none⟩,
    ⟨2, some 17, .move (.t 19), none⟩]) (.cond (.t 17) (.seq (.region [⟨0, some 20, .move (.t 0), none⟩,
    ⟨1, some 21, .call 28 [.t 20, .k (.c (.int .i64 4))] [.c (.int .i64)], none⟩,
    ⟨2, some 22, .move (.t 0), none⟩,
    ⟨3, some 23, .ldL 4 88 (.agg [.int .i64, .int .i64, .int .i64, .int .i64, .int .i64, .int .i64, .int .i64, .int .i64]), none⟩,
    ⟨4, some 24, .call 54 [.t 22, .t 23] [.c (.int .i64)], none⟩,
    ⟨5, some 25, .build [.int .i64 0, .int .i64 0, .int .i64 0, .int .i64 0, .int .i64 0, .int .u8 0] [(0, 1, .k (.c (.int .i64 2))), (4, 1, .t 21), (2, 1, .t 24)], none⟩,
    ⟨6, none, .stL 6 89 (.t 25) 6, none⟩]) .ret) (.seq (.region [⟨0, some 27, .move (.t 7), none⟩,
    ⟨1, some 28, .cmp .eql .i64 (.t 27) (.k (.c (.int .i64 7))), none⟩,
    ⟨2, some 26, .move (.t 28), none⟩]) (.cond (.t 26) (.seq (.region [⟨0, some 29, .move (.t 0), none⟩,
    ⟨1, some 30, .ldL 4 88 (.agg [.int .i64, .int .i64, .int .i64, .int .i64, .int .i64, .int .i64, .int .i64, .int .i64]), none⟩,
    ⟨2, some 31, .call 54 [.t 29, .t 30] [.c (.int .i64)], none⟩,
    ⟨3, some 32, .bslice 7 1 [.int .i64 0, .int .i64 0, .int .i64 0, .int .i64 0, .int .i64 0, .int .i64 0, .int .i64 0] [(0, 1, .k (.c (.int .i64 1))), (1, 1, .k (.c (.int .i64 2))), (2, 1, .k (.c (.int .i64 4))), (3, 1, .k (.c (.int .i64 3))), (4, 1, .k (.c (.int .i64 0))), (5, 1, .k (.c (.int .i64 8))), (6, 1, .k (.c (.int .i64 16)))], none⟩,
    ⟨4, some 33, .move (.t 0), none⟩,
    ⟨5, some 34, .call 28 [.t 33, .k (.c (.int .i64 7))] [.c (.int .i64)], none⟩,
    ⟨6, some 35, .iaddr (.t 32) (.t 34) 1, none⟩,
    ⟨7, some 36, .ldG 35 (.c (.int .i64)), none⟩,
    ⟨8, some 37, .build [.int .i64 0, .int .i64 0, .int .i64 0, .int .i64 0, .int .i64 0, .int .u8 0] [(0, 1, .k (.c (.int .i64 3))), (2, 1, .t 31), (3, 1, .t 36)], none⟩,
    ⟨9, none, .stL 6 89 (.t 37) 6, none⟩]) .ret) (.seq (.region [⟨0, some 39, .move (.t 7), none⟩,
    ⟨1, some 40, .cmp .lss .i64 (.t 39) (.k (.c (.int .i64 11))), none⟩,
    ⟨2, some 38, .move (.t 40), none⟩]) (.cond (.t 38) (.seq (.region [⟨0, some 41, .move (.t 0), none⟩,
    ⟨1, some 42, .move (.t 2), none⟩,
    ⟨2, some 43, .call 55 [.t 41, .t 42] [.c (.int .i64)], none⟩,
    ⟨3, some 44, .move (.t 0), none⟩,
    ⟨4, some 45, .ldL 4 88 (.agg [.int .i64, .int .i64, .int .i64, .int .i64, .int .i64, .int .i64, .int .i64, .int .i64]), none⟩,
    ⟨5, some 46, .call 54 [.t 44, .t 45] [.c (.int .i64)], none⟩,
    ⟨6, some 47, .build [.int .i64 0, .int .i64 0, .int .i64 0, .int .i64 0, .int .i64 0, .int .u8 0] [(0, 1, .k (.c (.int .i64 4))), (1, 1, .t 43), (2, 1, .t 46)], none⟩,
    ⟨7, none, .stL 6 89 (.t 47) 6, none⟩]) .ret) (.seq (.region [⟨0, some 49, .move (.t 7), none⟩,
    ⟨1, some 50, .cmp .lss .i64 (.t 49) (.k (.c (.int .i64 14))), none⟩,
    ⟨2, some 48, .move (.t 50), none⟩]) (.cond (.t 48) (.seq (.region [⟨0, some 51, .move (.t 0), none⟩,
    ⟨1, some 52, .move (.t 2), none⟩,
    ⟨2, some 53, .call 55 [.t 51, .t 52] [.c (.int .i64)], none⟩,
    ⟨3, some 54, .build [.int .i64 0, .int .i64 0, .int .i64 0, .int .i64 0, .int .i64 0, .int .u8 0] [(0, 1, .k (.c (.int .i64 5))), (1, 1, .t 53)], none⟩,
    ⟨4, none, .stL 6 89 (.t 54) 6, none⟩]) .ret) (.seq (.region [⟨0, some 56, .move (.t 7), none⟩,
    ⟨1, some 57, .cmp .eql .i64 (.t 56) (.k (.c (.int .i64 14))), none⟩,
    ⟨2, some 55, .move (.t 57), none⟩]) (.cond (.t 55) (.seq (.region [⟨0, some 58, .move (.t 0), none⟩,
    ⟨1, some 59, .move (.t 2), none⟩,
    ⟨2, some 60, .call 55 [.t 58, .t 59] [.c (.int .i64)], none⟩,
    ⟨3, some 61, .build [.int .i64 0, .int .i64 0, .int .i64 0, .int .i64 0, .int .i64 0, .int .u8 0] [(0, 1, .k (.c (.int .i64 6))), (1, 1, .t 60)], none⟩,
    ⟨4, none, .stL 6 89 (.t 61) 6, none⟩]) .ret) (.seq (.region [⟨0, some 63, .move (.t 7), none⟩,
    ⟨1, some 64, .cmp .lss .i64 (.t 63) (.k (.c (.int .i64 17))), none⟩,
    ⟨2, some 62, .move (.t 64), none⟩]) (.cond (.t 62) (.seq (.region [⟨0, some 65, .move (.t 0), none⟩,
    ⟨1, some 66, .move (.t 2), none⟩,
    ⟨2, some 67, .call 55 [.t 65, .t 66] [.c (.int .i64)], none⟩,
    ⟨3, some 68, .move (.t 0), none⟩,
    ⟨4, some 69, .call 28 [.t 68, .k (.c (.int .i64 9))] [.c (.int .i64)], none⟩,
    ⟨5, some 70, .build [.int .i64 0, .int .i64 0, .int .i64 0, .int .i64 0, .int .i64 0, .int .u8 0] [(0, 1, .k (.c (.int .i64 7))), (1, 1, .t 67), (4, 1, .t 69)], none⟩,
    ⟨6, none, .stL 6 89 (.t 70) 6, none⟩]) .ret) (.seq (.region [⟨0, some 72, .move (.t 7), none⟩,
    ⟨1, some 73, .cmp .eql .i64 (.t 72) (.k (.c (.int .i64 17))), none⟩,
    ⟨2, some 71, .move (.t 73), none⟩]) (.cond (.t 71) (.seq (.region [⟨0, some 74, .build [.int .i64 0, .int .i64 0, .int .i64 0, .int .i64 0, .int .i64 0, .int .u8 0] [(0, 1, .k (.c (.int .i64 9)))], none⟩,
    ⟨1, none, .stL 6 89 (.t 74) 6, none⟩]) .ret) (.seq (.region [⟨0, some 76, .move (.t 7), none⟩,
    ⟨1, some 77, .cmp .eql .i64 (.t 76) (.k (.c (.int .i64 18))), none⟩,
    ⟨2, some 75, .move (.t 77), none⟩]) (.cond (.t 75) (.seq (.region [⟨0, some 78, .build [.int .i64 0, .int .i64 0, .int .i64 0, .int .i64 0, .int .i64 0, .int .u8 0] [(0, 1, .k (.c (.int .i64 10)))], none⟩,
    ⟨1, none, .stL 6 89 (.t 78) 6, none⟩]) .ret) .skip)))))))))))))))))))) (.seq (.region [⟨0, some 79, .move (.t 0), none⟩,
    ⟨1, some 80, .move (.t 2), none⟩,
    ⟨2, some 81, .call 55 [.t 79, .t 80] [.c (.int .i64)], none⟩,
    ⟨3, some 82, .move (.t 0), none⟩,
    ⟨4, some 83, .call 28 [.t 82, .k (.c (.int .i64 9))] [.c (.int .i64)], none⟩,
    ⟨5, some 84, .move (.t 0), none⟩,
    ⟨6, some 85, .call 28 [.t 84, .k (.c (.int .i64 256))] [.c (.int .i64)], none⟩,
    ⟨7, some 86, .conv .u8 (.t 85), none⟩,
    ⟨8, some 87, .build [.int .i64 0, .int .i64 0, .int .i64 0, .int .i64 0, .int .i64 0, .int .u8 0] [(0, 1, .k (.c (.int .i64 8))), (1, 1, .t 81), (4, 1, .t 83), (5, 1, .t 86)], none⟩,
    ⟨9, none, .stL 6 89 (.t 87) 6, none⟩]) .ret))) }
def hodmanplay_Picks_Op.f (M : Mach) (C : Call) (p0i : Nat) (p0o : Nat) (c1_0 : Int) (c1_1 : Int) (c1_2 : Int) (c1_3 : Int) (c1_4 : Int) (c1_5 : Int) (c1_6 : Int) (c1_7 : Int) (l2i : Nat) (l2o : Nat) (l2n : Nat) (G : GH) : Option Res := (C hodmanplay_Picks_Num.id [.c (.ptr p0i p0o), .c (.int .i64 20)] G).bind fun qr_1 => (((qr_1.1[0]?).bind V1.c?).bind (Cell.asI .i64)).bind fun qx_2 => bif decide (qx_2 < 6) then (C hodmanplay_Picks_Size.id [.c (.ptr p0i p0o), .agg [.int .i64 c1_0, .int .i64 c1_1, .int .i64 c1_2, .int .i64 c1_3, .int .i64 c1_4, .int .i64 c1_5, .int .i64 c1_6, .int .i64 c1_7]] qr_1.2).bind fun qr_3 => (((qr_3.1[0]?).bind V1.c?).bind (Cell.asI .i64)).bind fun qx_4 => some ([.agg [.int .i64 1, .int .i64 0, .int .i64 qx_4, .int .i64 0, .int .i64 0, .int .u8 0]], qr_3.2) else bif decide (qx_2 = 6) then (C hodmanplay_Picks_Num.id [.c (.ptr p0i p0o), .c (.int .i64 4)] qr_1.2).bind fun qr_5 => (((qr_5.1[0]?).bind V1.c?).bind (Cell.asI .i64)).bind fun qx_6 => (C hodmanplay_Picks_Size.id [.c (.ptr p0i p0o), .agg [.int .i64 c1_0, .int .i64 c1_1, .int .i64 c1_2, .int .i64 c1_3, .int .i64 c1_4, .int .i64 c1_5, .int .i64 c1_6, .int .i64 c1_7]] qr_5.2).bind fun qr_7 => (((qr_7.1[0]?).bind V1.c?).bind (Cell.asI .i64)).bind fun qx_8 => some ([.agg [.int .i64 2, .int .i64 0, .int .i64 qx_8, .int .i64 0, .int .i64 qx_6, .int .u8 0]], qr_7.2) else bif decide (qx_2 = 7) then (C hodmanplay_Picks_Size.id [.c (.ptr p0i p0o), .agg [.int .i64 c1_0, .int .i64 c1_1, .int .i64 c1_2, .int .i64 c1_3, .int .i64 c1_4, .int .i64 c1_5, .int .i64 c1_6, .int .i64 c1_7]] qr_1.2).bind fun qr_9 => (((qr_9.1[0]?).bind V1.c?).bind (Cell.asI .i64)).bind fun qx_10 => let qG_11 := qr_9.2.alloc (.row [.int .i64 1, .int .i64 2, .int .i64 4, .int .i64 3, .int .i64 0, .int .i64 8, .int .i64 16] false); (C hodmanplay_Picks_Num.id [.c (.ptr p0i p0o), .c (.int .i64 7)] qG_11).bind fun qr_12 => (((qr_12.1[0]?).bind V1.c?).bind (Cell.asI .i64)).bind fun qx_13 => guardK (decide (0 ≤ qx_13 ∧ qx_13 < ((7 : Nat) : Int))) (((qr_12.2.ld qr_9.2.next (0 + Int.toNat qx_13 * 1)).bind (Cell.asI .i64)).bind fun qx_14 => some ([.agg [.int .i64 3, .int .i64 0, .int .i64 qx_10, .int .i64 qx_14, .int .i64 0, .int .u8 0]], qr_12.2)) else bif decide (qx_2 < 11) then (C hodmanplay_Picks_Block.id [.c (.ptr p0i p0o), .c (.sl 3 l2i l2o l2n)] qr_1.2).bind fun qr_15 => (((qr_15.1[0]?).bind V1.c?).bind (Cell.asI .i64)).bind fun qx_16 => (C hodmanplay_Picks_Size.id [.c (.ptr p0i p0o), .agg [.int .i64 c1_0, .int .i64 c1_1, .int .i64 c1_2, .int .i64 c1_3, .int .i64 c1_4, .int .i64 c1_5, .int .i64 c1_6, .int .i64 c1_7]] qr_15.2).bind fun qr_17 => (((qr_17.1[0]?).bind V1.c?).bind (Cell.asI .i64)).bind fun qx_18 => some ([.agg [.int .i64 4, .int .i64 qx_16, .int .i64 qx_18, .int .i64 0, .int .i64 0, .int .u8 0]], qr_17.2) else bif decide (qx_2 < 14) then (C hodmanplay_Picks_Block.id [.c (.ptr p0i p0o), .c (.sl 3 l2i l2o l2n)] qr_1.2).bind fun qr_19 => (((qr_19.1[0]?).bind V1.c?).bind (Cell.asI .i64)).bind fun qx_20 => some ([.agg [.int .i64 5, .int .i64 qx_20, .int .i64 0, .int .i64 0, .int .i64 0, .int .u8 0]], qr_19.2) else bif decide (qx_2 = 14) then (C hodmanplay_Picks_Block.id [.c (.ptr p0i p0o), .c (.sl 3 l2i l2o l2n)] qr_1.2).bind fun qr_21 => (((qr_21.1[0]?).bind V1.c?).bind (Cell.asI .i64)).bind fun qx_22 => some ([.agg [.int .i64 6, .int .i64 qx_22, .int .i64 0, .int .i64 0, .int .i64 0, .int .u8 0]], qr_21.2) else bif decide (qx_2 < 17) then (C hodmanplay_Picks_Block.id [.c (.ptr p0i p0o), .c (.sl 3 l2i l2o l2n)] qr_1.2).bind fun qr_23 => (((qr_23.1[0]?).bind V1.c?).bind (Cell.asI .i64)).bind fun qx_24 => (C hodmanplay_Picks_Num.id [.c (.ptr p0i p0o), .c (.int .i64 9)] qr_23.2).bind fun qr_25 => (((qr_25.1[0]?).bind V1.c?).bind (Cell.asI .i64)).bind fun qx_26 => some ([.agg [.int .i64 7, .int .i64 qx_24, .int .i64 0, .int .i64 0, .int .i64 qx_26, .int .u8 0]], qr_25.2) else bif decide (qx_2 = 17) then some ([.agg [.int .i64 9, .int .i64 0, .int .i64 0, .int .i64 0, .int .i64 0, .int .u8 0]], qr_1.2) else bif decide (qx_2 = 18) then some ([.agg [.int .i64 10, .int .i64 0, .int .i64 0, .int .i64 0, .int .i64 0, .int .u8 0]], qr_1.2) else (C hodmanplay_Picks_Block.id [.c (.ptr p0i p0o), .c (.sl 3 l2i l2o l2n)] qr_1.2).bind fun qr_27 => (((qr_27.1[0]?).bind V1.c?).bind (Cell.asI .i64)).bind fun qx_28 => (C hodmanplay_Picks_Num.id [.c (.ptr p0i p0o), .c (.int .i64 9)] qr_27.2).bind fun qr_29 => (((qr_29.1[0]?).bind V1.c?).bind (Cell.asI .i64)).bind fun qx_30 => (C hodmanplay_Picks_Num.id [.c (.ptr p0i p0o), .c (.int .i64 256)] qr_29.2).bind fun qr_31 => (((qr_31.1[0]?).bind V1.c?).bind (Cell.asI .i64)).bind fun qx_32 => some ([.agg [.int .i64 8, .int .i64 qx_28, .int .i64 0, .int .i64 0, .int .i64 qx_30, .int .u8 (IntKind.u8.wrap qx_32)]], qr_31.2)
theorem hodmanplay_Picks_Op.eq (M : Mach) (C : Call) (p0i : Nat) (p0o : Nat) (c1_0 : Int) (c1_1 : Int) (c1_2 : Int) (c1_3 : Int) (c1_4 : Int) (c1_5 : Int) (c1_6 : Int) (c1_7 : Int) (l2i : Nat) (l2o : Nat) (l2n : Nat) (G : GH) : runF M C hodmanplay_Picks_Op.d [.c (.ptr p0i p0o), .agg [.int .i64 c1_0, .int .i64 c1_1, .int .i64 c1_2, .int .i64 c1_3, .int .i64 c1_4, .int .i64 c1_5, .int .i64 c1_6, .int .i64 c1_7], .c (.sl 3 l2i l2o l2n)] G = hodmanplay_Picks_Op.f M C p0i p0o c1_0 c1_1 c1_2 c1_3 c1_4 c1_5 c1_6 c1_7 l2i l2o l2n G := by kernel_rfl

/- 66 hodman/hodmanref8.Fill -/
def hodmanref8_Fill.c7 : DCode := (.cond (.t 19) (.seq (.region [⟨0, some 20, .move (.t 9), none⟩,
    ⟨1, some 8, .move (.t 20), none⟩]) .ret) .skip)
def hodmanref8_Fill.c18 : DCode := (.cond (.t 35) (.region [⟨0, some 36, .move (.t 9), none⟩,
    ⟨1, some 37, .move (.t 10), none⟩,
    ⟨2, some 38, .move (.t 1), none⟩,
    ⟨3, some 39, .move (.t 2), none⟩,
    ⟨4, some 40, .move (.t 10), none⟩,
    ⟨5, some 41, .move (.t 3), none⟩,
    ⟨6, some 42, .bin .rem .i64 (.t 40) (.t 41), none⟩,
    ⟨7, some 43, .call 73 [.t 38, .t 39, .t 42] [.c (.int .u8)], none⟩,
    ⟨8, some 44, .iaddr (.t 36) (.t 37) 1, none⟩,
    ⟨9, none, .stG 44 (.t 43) 1, none⟩]) .skip)
def hodmanref8_Fill.c21 : DCode := (.region [⟨0, some 25, .move (.t 10), none⟩,
    ⟨1, some 26, .bin .add .i64 (.t 25) (.k (.c (.int .i64 1))), none⟩,
    ⟨2, some 10, .move (.t 26), none⟩])
def hodmanref8_Fill.c23 : DCode := (.seq (.seq (.region [⟨0, some 21, .move (.t 10), none⟩,
    ⟨1, some 22, .move (.t 9), none⟩,
    ⟨2, some 23, .len (.t 22), none⟩,
    ⟨3, some 24, .cmp .lss .i64 (.t 21) (.t 23), none⟩]) (.cond (.t 24) .skip (.exit 0))) (.seq (.block 1 (.seq (.region [⟨0, some 27, .move (.t 3), none⟩,
    ⟨1, some 28, .cmp .gtr .i64 (.t 27) (.k (.c (.int .i64 0))), none⟩,
    ⟨2, some 29, .move (.t 28), none⟩,
    ⟨3, some 30, .move (.t 10), some (29, true)⟩,
    ⟨4, some 31, .move (.t 3), some (29, true)⟩,
    ⟨5, some 32, .bin .quo .i64 (.t 30) (.t 31), some (29, true)⟩,
    ⟨6, some 33, .move (.t 2), some (29, true)⟩,
    ⟨7, some 34, .cmp .eql .i64 (.t 32) (.t 33), some (29, true)⟩,
    ⟨8, some 35, .pick (.t 29) (.t 34) (.k (.c (.bool false))), none⟩]) (.cut [1, 2, 3, 9, 10, 35] hodmanref8_Fill.c18))) (.cut [1, 2, 3, 9, 10] hodmanref8_Fill.c21)))
def hodmanref8_Fill.c24 : DCode := (.loop [1, 2, 3, 9, 10] hodmanref8_Fill.c23)
def hodmanref8_Fill.c29 : DCode := (.seq (.region [⟨0, some 45, .move (.t 9), none⟩,
    ⟨1, some 8, .move (.t 45), none⟩]) .ret)
def hodmanref8_Fill.c30 : DCode := (.seq (.seq (.region [⟨0, some 10, .move (.k (.c (.int .i64 0))), none⟩]) (.block 0 hodmanref8_Fill.c24)) hodmanref8_Fill.c29)
def hodmanref8_Fill.d : DFn := { ntmps := 46, res := [.t 8], body := (.seq (.region [⟨0, some 8, .move (.k (.c (.sl 1 0 0 0))), none⟩]) (.seq (.region [⟨0, some 11, .bslice 0 1 [] [], none⟩,
    ⟨1, some 12, .move (.t 0), none⟩,
    ⟨2, some 13, .app (.t 11) (.t 12) 1 1, none⟩,
    ⟨3, some 9, .move (.t 13), none⟩]) (.seq (.seq (.region [⟨0, some 14, .move (.t 2), none⟩,
    ⟨1, some 15, .cmp .lss .i64 (.t 14) (.k (.c (.int .i64 0))), none⟩,
    ⟨2, some 16, .move (.t 15), none⟩,
    ⟨3, some 17, .move (.t 3), some (16, false)⟩,
    ⟨4, some 18, .cmp .lss .i64 (.t 17) (.k (.c (.int .i64 0))), some (16, false)⟩,
    ⟨5, some 19, .pick (.t 16) (.k (.c (.bool true))) (.t 18), none⟩]) (.cut [1, 2, 3, 9, 19] hodmanref8_Fill.c7)) hodmanref8_Fill.c30))) }
def hodmanref8_Fill.k30 (M : Mach) (C : Call) : Kont := execC M.j C (M.ag C) hodmanref8_Fill.c30 ({ exits := [], ret := retK hodmanref8_Fill.d } : Env) (retK hodmanref8_Fill.d)
def hodmanref8_Fill.J7 (M : Mach) (C : Call) (seed1 : Int) (page2 : Int) (size3 : Int) (out9i : Nat) (out9o : Nat) (out9n : Nat) (t19 : Bool) (G : GH) : Option Res := M.j (execC M.j C (M.ag C) hodmanref8_Fill.c7 ({ exits := [], ret := retK hodmanref8_Fill.d } : Env) (hodmanref8_Fill.k30 M C)) [.und, .v (.c (.int .i64 seed1)), .v (.c (.int .i64 page2)), .v (.c (.int .i64 size3)), .und, .und, .und, .und, .und, .v (.c (.sl 1 out9i out9o out9n)), .und, .und, .und, .und, .und, .und, .und, .und, .und, .v (.c (.bool t19)), .und, .und, .und, .und, .und, .und, .und, .und, .und, .und, .und, .und, .und, .und, .und, .und, .und, .und, .und, .und, .und, .und, .und, .und, .und, .und] G
def hodmanref8_Fill.k29 (M : Mach) (C : Call) : Kont := execC M.j C (M.ag C) hodmanref8_Fill.c29 ({ exits := [], ret := retK hodmanref8_Fill.d } : Env) (retK hodmanref8_Fill.d)
def hodmanref8_Fill.e25 (M : Mach) (C : Call) : Env := { exits := (0, (hodmanref8_Fill.k29 M C)) :: (({ exits := [], ret := retK hodmanref8_Fill.d } : Env)).exits, ret := (({ exits := [], ret := retK hodmanref8_Fill.d } : Env)).ret }
def hodmanref8_Fill.L24 (M : Mach) (C : Call) (seed1 : Int) (page2 : Int) (size3 : Int) (out9i : Nat) (out9o : Nat) (out9n : Nat) (i10 : Int) (G : GH) : Option Res := M.ag C [1, 2, 3, 9, 10] hodmanref8_Fill.c23 (hodmanref8_Fill.e25 M C) (hodmanref8_Fill.k29 M C) [.und, .v (.c (.int .i64 seed1)), .v (.c (.int .i64 page2)), .v (.c (.int .i64 size3)), .und, .und, .und, .und, .und, .v (.c (.sl 1 out9i out9o out9n)), .v (.c (.int .i64 i10)), .und, .und, .und, .und, .und, .und, .und, .und, .und, .und, .und, .und, .und, .und, .und, .und, .und, .und, .und, .und, .und, .und, .und, .und, .und, .und, .und, .und, .und, .und, .und, .und, .und, .und, .und] G
def hodmanref8_Fill.k24 (M : Mach) (C : Call) : Kont := fun tm G => M.ag C [1, 2, 3, 9, 10] hodmanref8_Fill.c23 (hodmanref8_Fill.e25 M C) (hodmanref8_Fill.k29 M C) (restr [1, 2, 3, 9, 10] 0 tm) G
def hodmanref8_Fill.k21 (M : Mach) (C : Call) : Kont := execC M.j C (M.ag C) (.cut [1, 2, 3, 9, 10] hodmanref8_Fill.c21) (hodmanref8_Fill.e25 M C) (hodmanref8_Fill.k24 M C)
def hodmanref8_Fill.e20 (M : Mach) (C : Call) : Env := { exits := (1, (hodmanref8_Fill.k21 M C)) :: ((hodmanref8_Fill.e25 M C)).exits, ret := ((hodmanref8_Fill.e25 M C)).ret }
def hodmanref8_Fill.J18 (M : Mach) (C : Call) (seed1 : Int) (page2 : Int) (size3 : Int) (out9i : Nat) (out9o : Nat) (out9n : Nat) (i10 : Int) (t35 : Bool) (G : GH) : Option Res := M.j (execC M.j C (M.ag C) hodmanref8_Fill.c18 (hodmanref8_Fill.e20 M C) (hodmanref8_Fill.k21 M C)) [.und, .v (.c (.int .i64 seed1)), .v (.c (.int .i64 page2)), .v (.c (.int .i64 size3)), .und, .und, .und, .und, .und, .v (.c (.sl 1 out9i out9o out9n)), .v (.c (.int .i64 i10)), .und, .und, .und, .und, .und, .und, .und, .und, .und, .und, .und, .und, .und, .und, .und, .und, .und, .und, .und, .und, .und, .und, .und, .und, .v (.c (.bool t35)), .und, .und, .und, .und, .und, .und, .und, .und, .und, .und] G
def hodmanref8_Fill.J21 (M : Mach) (C : Call) (seed1 : Int) (page2 : Int) (size3 : Int) (out9i : Nat) (out9o : Nat) (out9n : Nat) (i10 : Int) (G : GH) : Option Res := M.j (execC M.j C (M.ag C) hodmanref8_Fill.c21 (hodmanref8_Fill.e25 M C) (hodmanref8_Fill.k24 M C)) [.und, .v (.c (.int .i64 seed1)), .v (.c (.int .i64 page2)), .v (.c (.int .i64 size3)), .und, .und, .und, .und, .und, .v (.c (.sl 1 out9i out9o out9n)), .v (.c (.int .i64 i10)), .und, .und, .und, .und, .und, .und, .und, .und, .und, .und, .und, .und, .und, .und, .und, .und, .und, .und, .und, .und, .und, .und, .und, .und, .und, .und, .und, .und, .und, .und, .und, .und, .und, .und, .und] G
theorem hodmanref8_Fill.J7_eq (M : Mach) (C : Call) (seed1 : Int) (page2 : Int) (size3 : Int) (out9i : Nat) (out9o : Nat) (out9n : Nat) (t19 : Bool) (G : GH) : hodmanref8_Fill.J7 M C seed1 page2 size3 out9i out9o out9n t19 G = (bif t19 then some ([.c (.sl 1 out9i out9o out9n)], G) else hodmanref8_Fill.L24 M C seed1 page2 size3 out9i out9o out9n 0 G) := (M.hj _ _ _).trans (by kernel_rfl)
theorem hodmanref8_Fill.L24_eq (M : Mach) (C : Call) (seed1 : Int) (page2 : Int) (size3 : Int) (out9i : Nat) (out9o : Nat) (out9n : Nat) (i10 : Int) (G : GH) : hodmanref8_Fill.L24 M C seed1 page2 size3 out9i out9o out9n i10 G = (bif decide (i10 < ((out9n : Nat) : Int)) then bif decide (size3 > 0) then (binD .quo .i64 i10 size3).bind fun qx_4 => hodmanref8_Fill.J18 M C seed1 page2 size3 out9i out9o out9n i10 (decide (qx_4 = page2)) G else hodmanref8_Fill.J18 M C seed1 page2 size3 out9i out9o out9n i10 false G else some ([.c (.sl 1 out9i out9o out9n)], G)) := (M.hs _ _ _ _ _ _ _).trans (by kernel_rfl)
theorem hodmanref8_Fill.J18_eq (M : Mach) (C : Call) (seed1 : Int) (page2 : Int) (size3 : Int) (out9i : Nat) (out9o : Nat) (out9n : Nat) (i10 : Int) (t35 : Bool) (G : GH) : hodmanref8_Fill.J18 M C seed1 page2 size3 out9i out9o out9n i10 t35 G = (bif t35 then (binD .rem .i64 i10 size3).bind fun qx_5 => (C hodmanref8_Byte.id [.c (.int .i64 seed1), .c (.int .i64 page2), .c (.int .i64 qx_5)] G).bind fun qr_6 => (((qr_6.1[0]?).bind V1.c?).bind (Cell.asI .u8)).bind fun qx_7 => guardK (decide (0 ≤ i10 ∧ i10 < ((out9n : Nat) : Int))) ((qr_6.2.sts out9i (out9o + Int.toNat i10 * 1) [.int .u8 qx_7]).bind fun qG_8 => hodmanref8_Fill.J21 M C seed1 page2 size3 out9i out9o out9n i10 qG_8) else hodmanref8_Fill.J21 M C seed1 page2 size3 out9i out9o out9n i10 G) := (M.hj _ _ _).trans (by kernel_rfl)
theorem hodmanref8_Fill.J21_eq (M : Mach) (C : Call) (seed1 : Int) (page2 : Int) (size3 : Int) (out9i : Nat) (out9o : Nat) (out9n : Nat) (i10 : Int) (G : GH) : hodmanref8_Fill.J21 M C seed1 page2 size3 out9i out9o out9n i10 G = (hodmanref8_Fill.L24 M C seed1 page2 size3 out9i out9o out9n (IntKind.i64.wrap (i10 + 1)) G) := (M.hj _ _ _).trans (by kernel_rfl)
def hodmanref8_Fill.f (M : Mach) (C : Call) (mem0i : Nat) (mem0o : Nat) (mem0n : Nat) (seed1 : Int) (page2 : Int) (size3 : Int) (G : GH) : Option Res := let qG_1 := G.alloc (.row [] false); (if mem0n = 0 then some [] else qG_1.lds mem0i mem0o (mem0n * 1)).bind fun qnew_2 => guardK (decide (0 + mem0n ≤ most)) ((qG_1.app G.next 0 0 1 mem0n qnew_2).bind fun qp_3 => bif decide (page2 < 0) then hodmanref8_Fill.J7 M C seed1 page2 size3 qp_3.1 qp_3.2.1 (0 + mem0n) true qp_3.2.2 else hodmanref8_Fill.J7 M C seed1 page2 size3 qp_3.1 qp_3.2.1 (0 + mem0n) (decide (size3 < 0)) qp_3.2.2)
theorem hodmanref8_Fill.eq (M : Mach) (C : Call) (mem0i : Nat) (mem0o : Nat) (mem0n : Nat) (seed1 : Int) (page2 : Int) (size3 : Int) (G : GH) : runF M C hodmanref8_Fill.d [.c (.sl 1 mem0i mem0o mem0n), .c (.int .i64 seed1), .c (.int .i64 page2), .c (.int .i64 size3)] G = hodmanref8_Fill.f M C mem0i mem0o mem0n seed1 page2 size3 G := by kernel_rfl
end Go.Proofs.D
